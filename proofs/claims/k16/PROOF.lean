import PyProof.Rows.All
import Wide.All
import OpenK.AllK
import Wide.FinOn
import HandS.ForMost
import HandS.Property
import HandS.OwnEq
import HandS.IsInst
import HandS.Style
import HandS.SetKeys
import HandS.SortInts
import HandS.SortRule
import HandS.DictTup
import HandS.ListItems
import HandS.Gcd
import HandS.NoneIn
import KE.KMathGC
import KE.KFmtOwn
import HandS.Walk
import PySem.Challenge.RW_leadrules_k16_whole_rules_through_rows
set_option Elab.async false
set_option linter.all false
set_option maxRecDepth 100000
set_option maxHeartbeats 4000000
/-! The plain law: rules of a length through rows, in plain Lean. No program in sight. -/
namespace K16
abbrev Row := Int × Int
def early (n : Int) (r : Row) (d : Int) : Int := r.2 + (d - r.1) / n * n
def late (n : Int) (r : Row) (d : Int) : Int := r.2 - (r.1 - d) / n * n
def Kept (n : Int) (rows : List Row) : Prop := ∀ r, r ∈ rows → ∀ o, o ∈ rows → early n r o.1 ≤ o.2
def mx : List Int → Int
  | [] => 0
  | [x] => x
  | x :: y :: r => max x (mx (y :: r))
def mn : List Int → Int
  | [] => 0
  | [x] => x
  | x :: y :: r => min x (mn (y :: r))
theorem mx_mem : ∀ xs : List Int, xs ≠ [] → mx xs ∈ xs
  | [], h => absurd rfl h
  | [x], _ => List.mem_cons_self
  | x :: y :: r, _ => by
    have ih := mx_mem (y :: r) (List.cons_ne_nil _ _)
    show max x (mx (y :: r)) ∈ x :: y :: r
    by_cases h : x ≤ mx (y :: r)
    · rw [show max x (mx (y :: r)) = mx (y :: r) by omega]
      exact List.mem_cons_of_mem _ ih
    · rw [show max x (mx (y :: r)) = x by omega]
      exact List.mem_cons_self
theorem mx_le : ∀ (xs : List Int) (y : Int), y ∈ xs → y ≤ mx xs
  | [], _, h => by cases h
  | [x], y, h => by
    have e : y = x := by simpa using h
    rw [e]
    exact Int.le_refl _
  | x :: z :: r, y, h => by
    show y ≤ max x (mx (z :: r))
    rcases List.mem_cons.mp h with e | h
    · omega
    · have := mx_le (z :: r) y h
      omega
theorem mn_mem : ∀ xs : List Int, xs ≠ [] → mn xs ∈ xs
  | [], h => absurd rfl h
  | [x], _ => List.mem_cons_self
  | x :: y :: r, _ => by
    have ih := mn_mem (y :: r) (List.cons_ne_nil _ _)
    show min x (mn (y :: r)) ∈ x :: y :: r
    by_cases h : x ≤ mn (y :: r)
    · rw [show min x (mn (y :: r)) = x by omega]
      exact List.mem_cons_self
    · rw [show min x (mn (y :: r)) = mn (y :: r) by omega]
      exact List.mem_cons_of_mem _ ih
theorem mn_le : ∀ (xs : List Int) (y : Int), y ∈ xs → mn xs ≤ y
  | [], _, h => by cases h
  | [x], y, h => by
    have e : y = x := by simpa using h
    rw [e]
    exact Int.le_refl _
  | x :: z :: r, y, h => by
    show min x (mn (z :: r)) ≤ y
    rcases List.mem_cons.mp h with e | h
    · omega
    · have := mn_le (z :: r) y h
      omega
theorem mx_uniq {m : Int} {xs : List Int} (h1 : m ∈ xs) (h2 : ∀ y, y ∈ xs → y ≤ m) : m = mx xs := by
  have a := mx_le xs m h1
  have b := h2 _ (mx_mem xs (List.ne_nil_of_mem h1))
  omega
theorem mn_uniq {m : Int} {xs : List Int} (h1 : m ∈ xs) (h2 : ∀ y, y ∈ xs → m ≤ y) : m = mn xs := by
  have a := mn_le xs m h1
  have b := h2 _ (mn_mem xs (List.ne_nil_of_mem h1))
  omega
/-- the greatest, the least over all rows moved by whole lengths -/
def gr (n : Int) (rows : List Row) (d : Int) : Int := mx (rows.map fun r => early n r d)
def le (n : Int) (rows : List Row) (d : Int) : Int := mn (rows.map fun r => late n r d)
section
variable {n : Int} {rows : List Row} {d m : Int} {r : Row}
theorem le_gr (h : r ∈ rows) : early n r d ≤ gr n rows d := mx_le _ _ (List.mem_map.mpr ⟨r, h, rfl⟩)
theorem gr_ex (h : rows ≠ []) : ∃ r, r ∈ rows ∧ gr n rows d = early n r d := by
  have q := mx_mem (rows.map fun r => early n r d) (by simpa using h)
  obtain ⟨r, h1, h2⟩ := List.mem_map.mp q
  exact ⟨r, h1, h2.symm⟩
theorem gr_le (h : rows ≠ []) (q : ∀ r, r ∈ rows → early n r d ≤ m) : gr n rows d ≤ m := by
  obtain ⟨r, h1, h2⟩ := gr_ex (n := n) (d := d) h
  rw [h2]
  exact q r h1
theorem le_le (h : r ∈ rows) : le n rows d ≤ late n r d := mn_le _ _ (List.mem_map.mpr ⟨r, h, rfl⟩)
theorem le_ex (h : rows ≠ []) : ∃ r, r ∈ rows ∧ le n rows d = late n r d := by
  have q := mn_mem (rows.map fun r => late n r d) (by simpa using h)
  obtain ⟨r, h1, h2⟩ := List.mem_map.mp q
  exact ⟨r, h1, h2.symm⟩
theorem le_le' (h : rows ≠ []) (q : ∀ r, r ∈ rows → m ≤ late n r d) : m ≤ le n rows d := by
  obtain ⟨r, h1, h2⟩ := le_ex (n := n) (d := d) h
  rw [h2]
  exact q r h1
end
/-! ### moved by whole lengths -/
theorem early_shift {n : Int} (hn : 0 < n) (r : Row) (d k : Int) : early n r (d + k * n) = early n r d + k * n := by
  unfold early
  have e : (d + k * n - r.1) / n = (d - r.1) / n + k := by
    rw [show d + k * n - r.1 = (d - r.1) + k * n by omega]
    exact Int.add_mul_ediv_right _ _ (by omega)
  rw [e, Int.add_mul]
  omega
theorem late_shift {n : Int} (hn : 0 < n) (r : Row) (d k : Int) : late n r (d + k * n) = late n r d + k * n := by
  unfold late
  have e : (r.1 - (d + k * n)) / n = (r.1 - d) / n + -k := by
    rw [show r.1 - (d + k * n) = (r.1 - d) + (-k) * n by rw [Int.neg_mul]; omega]
    exact Int.add_mul_ediv_right _ _ (by omega)
  rw [e, Int.add_mul, Int.neg_mul]
  omega
theorem early_mono {n : Int} (hn : 0 < n) (r : Row) {d e : Int} (h : d ≤ e) : early n r d ≤ early n r e := by
  unfold early
  have q : (d - r.1) / n ≤ (e - r.1) / n := Int.ediv_le_ediv hn (by omega)
  have := Int.mul_le_mul_of_nonneg_right q (Int.le_of_lt hn)
  omega
theorem late_mono {n : Int} (hn : 0 < n) (r : Row) {d e : Int} (h : d ≤ e) : late n r d ≤ late n r e := by
  unfold late
  have q : (r.1 - e) / n ≤ (r.1 - d) / n := Int.ediv_le_ediv hn (by omega)
  have := Int.mul_le_mul_of_nonneg_right q (Int.le_of_lt hn)
  omega
theorem early_self {n : Int} (r : Row) : early n r r.1 = r.2 := by
  unfold early
  rw [Int.sub_self, Int.zero_ediv, Int.zero_mul]
  omega
theorem late_self {n : Int} (r : Row) : late n r r.1 = r.2 := by
  unfold late
  rw [Int.sub_self, Int.zero_ediv, Int.zero_mul]
  omega
/-- a rule of a length -/
structure Rule (n : Int) (f : Int → Int) : Prop where
  mono : ∀ x y, x ≤ y → f x ≤ f y
  shift : ∀ x k, f (x + k * n) = f x + k * n
theorem gr_rule {n : Int} {rows : List Row} (hn : 0 < n) (h : rows ≠ []) : Rule n (gr n rows) := by
  refine ⟨fun x y q => gr_le h fun r hr => Int.le_trans (early_mono hn r q) (le_gr hr), fun x k => ?_⟩
  refine Int.le_antisymm (gr_le h fun r hr => ?_) ?_
  · rw [early_shift hn]
    exact Int.add_le_add_right (le_gr hr) _
  · obtain ⟨r, h1, h2⟩ := gr_ex (n := n) (d := x) h
    rw [h2, ← early_shift hn]
    exact le_gr h1
theorem le_rule {n : Int} {rows : List Row} (hn : 0 < n) (h : rows ≠ []) : Rule n (le n rows) := by
  refine ⟨fun x y q => le_le' h fun r hr => Int.le_trans (le_le hr) (late_mono hn r q), fun x k => ?_⟩
  refine Int.le_antisymm ?_ (le_le' h fun r hr => ?_)
  · obtain ⟨r, h1, h2⟩ := le_ex (n := n) (d := x) h
    rw [h2, ← late_shift hn]
    exact le_le h1
  · rw [late_shift hn]
    exact Int.add_le_add_right (le_le hr) _
section
variable {n : Int} {rows more : List Row} {f : Int → Int} {r : Row}
theorem early_rule (hn : 0 < n) (R : Rule n f) (h : f r.1 = r.2) (d : Int) : early n r d ≤ f d := by
  unfold early
  rw [← h, ← R.shift]
  refine R.mono _ _ ?_
  have := Int.ediv_mul_le (d - r.1) (show n ≠ 0 by omega)
  omega
theorem late_rule (hn : 0 < n) (R : Rule n f) (h : f r.1 = r.2) (d : Int) : f d ≤ late n r d := by
  unfold late
  rw [← h, Int.sub_eq_add_neg, ← Int.neg_mul, ← R.shift]
  refine R.mono _ _ ?_
  have := Int.ediv_mul_le (r.1 - d) (show n ≠ 0 by omega)
  rw [Int.neg_mul]
  omega
theorem gr_rule_le (hn : 0 < n) (R : Rule n f) (h0 : rows ≠ []) (h : ∀ r, r ∈ rows → f r.1 = r.2) (d : Int) : gr n rows d ≤ f d := gr_le h0 fun r hr => early_rule hn R (h r hr) d
theorem le_rule_le (hn : 0 < n) (R : Rule n f) (h0 : rows ≠ []) (h : ∀ r, r ∈ rows → f r.1 = r.2) (d : Int) : f d ≤ le n rows d := le_le' h0 fun r hr => late_rule hn R (h r hr) d
theorem kept_rule (hn : 0 < n) (R : Rule n f) (h : ∀ r, r ∈ rows → f r.1 = r.2) : Kept n rows := fun r hr o ho => by
  rw [← h o ho]
  exact early_rule hn R (h r hr) _
theorem gr_row (k : Kept n rows) (h : r ∈ rows) : gr n rows r.1 = r.2 := by
  refine Int.le_antisymm (gr_le (List.ne_nil_of_mem h) fun o ho => k o ho r h) ?_
  have := le_gr (n := n) (d := r.1) h
  rw [early_self] at this
  exact this
theorem le_row (k : Kept n rows) (h : r ∈ rows) : le n rows r.1 = r.2 := by
  refine Int.le_antisymm ?_ (le_le' (List.ne_nil_of_mem h) fun o ho => ?_)
  · have := le_le (n := n) (d := r.1) h
    rw [late_self] at this
    exact this
  · have q := k r h o ho
    unfold early at q
    unfold late
    omega
theorem gr_more (h0 : rows ≠ []) (h : ∀ r, r ∈ rows → r ∈ more) (d : Int) : gr n rows d ≤ gr n more d := gr_le h0 fun r hr => le_gr (h r hr)
theorem le_more (h0 : rows ≠ []) (h : ∀ r, r ∈ rows → r ∈ more) (d : Int) : le n more d ≤ le n rows d := le_le' h0 fun r hr => le_le (h r hr)
end
/-! ### lists of days -/
structure IsTab (days : List Int) : Prop where
  pos : 0 < days.length
  most : days.length ≤ 600
  up : ∀ i, i + 1 < days.length → days.getD i 0 ≤ days.getD (i + 1) 0
  last : days.getD (days.length - 1) 0 ≤ days.getD 0 0 + days.length
def onD (days : List Int) (x : Int) : Int := days.getD (x % days.length).toNat 0 + x / days.length * days.length
theorem IsTab.le {days : List Int} (t : IsTab days) (i : Nat) : ∀ k, i + k < days.length → days.getD i 0 ≤ days.getD (i + k) 0
  | 0, _ => Int.le_refl _
  | k + 1, h => Int.le_trans (t.le i k (by omega)) (t.up (i + k) (by omega))
theorem IsTab.le' {days : List Int} (t : IsTab days) {i j : Nat} (h : i ≤ j) (hj : j < days.length) : days.getD i 0 ≤ days.getD j 0 := by
  have := t.le i (j - i) (by omega)
  rw [show i + (j - i) = j by omega] at this
  exact this
theorem IsTab.rule {days : List Int} (t : IsTab days) : Rule days.length (onD days) := by
  have hp := t.pos
  have hn : (0 : Int) < days.length := by omega
  refine ⟨fun x y h => ?_, fun x k => ?_⟩
  · unfold onD
    have hx0 := Int.emod_nonneg x (show (days.length : Int) ≠ 0 by omega)
    have hx1 := Int.emod_lt_of_pos x hn
    have hy0 := Int.emod_nonneg y (show (days.length : Int) ≠ 0 by omega)
    have hy1 := Int.emod_lt_of_pos y hn
    have hq : x / days.length ≤ y / days.length := Int.ediv_le_ediv hn h
    by_cases e : x / days.length = y / days.length
    · have ex := Int.emod_add_mul_ediv x days.length
      have ey := Int.emod_add_mul_ediv y days.length
      rw [e] at ex ⊢
      have := t.le' (i := (x % days.length).toNat) (j := (y % days.length).toNat) (by omega) (by omega)
      omega
    · have h1 : x / days.length + 1 ≤ y / days.length := by omega
      have h2 := Int.mul_le_mul_of_nonneg_right h1 (Int.le_of_lt hn)
      rw [Int.add_mul, Int.one_mul] at h2
      have h3 := t.le' (i := (x % days.length).toNat) (j := days.length - 1) (by omega) (by omega)
      have h4 := t.le' (i := 0) (j := (y % days.length).toNat) (by omega) (by omega)
      have h5 := t.last
      omega
  · unfold onD
    rw [Int.add_mul_emod_self_right, Int.add_mul_ediv_right _ _ (show (days.length : Int) ≠ 0 by omega), Int.add_mul]
    omega
theorem onD_at {days : List Int} {i : Nat} (h : i < days.length) : onD days i = days.getD i 0 := by
  unfold onD
  rw [Int.emod_eq_of_lt (by omega) (by omega), Int.ediv_eq_zero_of_lt (by omega) (by omega)]
  simp
/-- the list of a rule -/
def tab (n : Nat) (f : Int → Int) : List Int := (List.range n).map fun (i : Nat) => f (i : Int)
theorem tab_len (n : Nat) (f : Int → Int) : (tab n f).length = n := by simp [tab]
theorem tab_get {n : Nat} {f : Int → Int} {i : Nat} (h : i < n) : (tab n f)[i]? = some (f i) := by simp [tab, h]
theorem tab_getD {n : Nat} {f : Int → Int} {i : Nat} (h : i < n) : (tab n f).getD i 0 = f i := by
  rw [List.getD_eq_getElem?_getD, tab_get h]
  rfl
theorem tab_is {n : Nat} {f : Int → Int} (h0 : 0 < n) (h1 : n ≤ 600) (R : Rule n f) : IsTab (tab n f) := by
  refine ⟨by rw [tab_len]; exact h0, by rw [tab_len]; exact h1, fun i h => ?_, ?_⟩
  · rw [tab_len] at h
    rw [tab_getD (by omega), tab_getD h]
    exact R.mono _ _ (by omega)
  · rw [tab_len, tab_getD (by omega), tab_getD h0]
    have e := R.shift 0 1
    rw [Int.one_mul] at e
    have := R.mono ((n - 1 : Nat) : Int) (0 + n) (by omega)
    rw [e] at this
    exact this
theorem tab_on {n : Nat} {f : Int → Int} (h0 : 0 < n) (R : Rule n f) (x : Int) : onD (tab n f) x = f x := by
  have hn : (0 : Int) < n := by omega
  have a := Int.emod_nonneg x (show (n : Int) ≠ 0 by omega)
  have b := Int.emod_lt_of_pos x hn
  unfold onD
  rw [tab_len, tab_getD (by omega), Int.toNat_of_nonneg a, ← R.shift, Int.mul_comm, Int.emod_add_mul_ediv]
theorem tab_of {days : List Int} (t : IsTab days) : tab days.length (onD days) = days := by
  refine List.ext_getElem? fun i => ?_
  by_cases h : i < days.length
  · rw [tab_get h, onD_at h, List.getD_eq_getElem?_getD, List.getElem?_eq_getElem h]
    rfl
  · rw [List.getElem?_eq_none (by rw [tab_len]; omega), List.getElem?_eq_none (by omega)]
theorem tab_ext {n : Nat} {f g : Int → Int} (h : ∀ i : Nat, i < n → f i = g i) : tab n f = tab n g := by
  unfold tab
  refine List.map_congr_left fun i hi => ?_
  exact h i (List.mem_range.mp hi)
/-! ### rows brought down -/
def down (n : Int) (r : Row) : Row := (r.1 - r.1 / n * n, r.2 - r.1 / n * n)
theorem down_lo {n : Int} (hn : 0 < n) (r : Row) : 0 ≤ (down n r).1 ∧ (down n r).1 < n := by
  have e := Int.emod_add_mul_ediv r.1 n
  have a := Int.emod_nonneg r.1 (show n ≠ 0 by omega)
  have b := Int.emod_lt_of_pos r.1 hn
  show 0 ≤ r.1 - r.1 / n * n ∧ r.1 - r.1 / n * n < n
  rw [Int.mul_comm (r.1 / n) n]
  omega
theorem early_down {n : Int} (hn : 0 < n) (r : Row) (d : Int) : early n (down n r) d = early n r d := by
  show r.2 - r.1 / n * n + (d - (r.1 - r.1 / n * n)) / n * n = r.2 + (d - r.1) / n * n
  rw [show d - (r.1 - r.1 / n * n) = (d - r.1) + r.1 / n * n by omega, Int.add_mul_ediv_right _ _ (show n ≠ 0 by omega), Int.add_mul]
  omega
theorem late_down {n : Int} (hn : 0 < n) (r : Row) (d : Int) : late n (down n r) d = late n r d := by
  show r.2 - r.1 / n * n - (r.1 - r.1 / n * n - d) / n * n = r.2 - (r.1 - d) / n * n
  rw [show r.1 - r.1 / n * n - d = (r.1 - d) + (-(r.1 / n)) * n by rw [Int.neg_mul]; omega, Int.add_mul_ediv_right _ _ (show n ≠ 0 by omega), Int.add_mul, Int.neg_mul]
  omega
theorem early_lo {n : Int} {p : Row} {d : Int} (h0 : 0 ≤ p.1) (h1 : p.1 < n) (h2 : 0 ≤ d) (h3 : d < n) : early n p d = if p.1 ≤ d then p.2 else p.2 - n := by
  unfold early
  by_cases h : p.1 ≤ d
  · rw [if_pos h, Int.ediv_eq_zero_of_lt (by omega) (by omega), Int.zero_mul]
    omega
  · rw [if_neg h]
    have e : (d - p.1) / n = -1 := by
      have q := Int.add_mul_ediv_right (d - p.1) 1 (show n ≠ 0 by omega)
      rw [Int.one_mul, Int.ediv_eq_zero_of_lt (by omega) (by omega)] at q
      omega
    rw [e, Int.neg_mul, Int.one_mul]
    omega
theorem late_lo {n : Int} {p : Row} {d : Int} (h0 : 0 ≤ p.1) (h1 : p.1 < n) (h2 : 0 ≤ d) (h3 : d < n) : late n p d = if d ≤ p.1 then p.2 else p.2 + n := by
  unfold late
  by_cases h : d ≤ p.1
  · rw [if_pos h, Int.ediv_eq_zero_of_lt (by omega) (by omega), Int.zero_mul]
    omega
  · rw [if_neg h]
    have e : (p.1 - d) / n = -1 := by
      have q := Int.add_mul_ediv_right (p.1 - d) 1 (show n ≠ 0 by omega)
      rw [Int.one_mul, Int.ediv_eq_zero_of_lt (by omega) (by omega)] at q
      omega
    rw [e, Int.neg_mul, Int.one_mul]
    omega
/-- what the program knows of the rows: brought down, sorted, each day once -/
structure Known (n : Int) (rows known : List Row) : Prop where
  mem : ∀ p, p ∈ known ↔ ∃ r, r ∈ rows ∧ down n r = p
  rise : known.Pairwise fun p q => p.1 < q.1
abbrev at_ (l : List Row) (i : Nat) : Row := l.getD i (0, 0)
theorem at_mem {l : List Row} {i : Nat} (h : i < l.length) : at_ l i ∈ l := by
  show l.getD i (0, 0) ∈ l
  rw [List.getD_eq_getElem?_getD, List.getElem?_eq_getElem h]
  exact List.getElem_mem h
theorem mem_at {l : List Row} {p : Row} (h : p ∈ l) : ∃ i, i < l.length ∧ at_ l i = p := by
  obtain ⟨i, hi, e⟩ := List.mem_iff_getElem.mp h
  refine ⟨i, hi, ?_⟩
  show l.getD i (0, 0) = p
  rw [List.getD_eq_getElem?_getD, List.getElem?_eq_getElem hi]
  exact e
section
variable {n : Int} {rows known : List Row}
theorem Known.lo (hn : 0 < n) (K : Known n rows known) {p : Row} (h : p ∈ known) : 0 ≤ p.1 ∧ p.1 < n := by
  obtain ⟨r, _, e⟩ := (K.mem p).mp h
  rw [← e]
  exact down_lo hn r
theorem Known.lt (K : Known n rows known) {i j : Nat} (h : i < j) (hj : j < known.length) : (at_ known i).1 < (at_ known j).1 := by
  have q := List.pairwise_iff_getElem.mp K.rise i j (by omega) hj h
  show (known.getD i (0, 0)).1 < (known.getD j (0, 0)).1
  rw [List.getD_eq_getElem?_getD, List.getElem?_eq_getElem (show i < known.length by omega), List.getD_eq_getElem?_getD, List.getElem?_eq_getElem hj]
  exact q
theorem Known.pos (K : Known n rows known) (h : rows ≠ []) : 0 < known.length := by
  cases rows with
  | nil => exact absurd rfl h
  | cons r rest => exact List.length_pos_of_mem ((K.mem (down n r)).mpr ⟨r, List.mem_cons_self, rfl⟩)
/-- kept, said of what is known -/
def KeptK (n : Int) (known : List Row) : Prop := ∀ p, p ∈ known → ∀ q, q ∈ known → (p.1 ≤ q.1 → p.2 ≤ q.2) ∧ (q.1 < p.1 → p.2 - n ≤ q.2)
theorem early_pair (hn : 0 < n) (r o : Row) : early n r o.1 ≤ o.2 ↔ early n (down n r) (down n o).1 ≤ (down n o).2 := by
  have e : o.1 = (down n o).1 + o.1 / n * n := by
    show o.1 = o.1 - o.1 / n * n + o.1 / n * n
    omega
  have e2 : (down n o).2 = o.2 - o.1 / n * n := rfl
  have q := early_shift hn r (down n o).1 (o.1 / n)
  rw [← e] at q
  rw [early_down hn, q, e2]
  omega
theorem Known.kept (hn : 0 < n) (K : Known n rows known) : Kept n rows ↔ KeptK n known := by
  have key : ∀ p, p ∈ known → ∀ q, q ∈ known → (early n p q.1 ≤ q.2 ↔ (p.1 ≤ q.1 → p.2 ≤ q.2) ∧ (q.1 < p.1 → p.2 - n ≤ q.2)) := fun p hp q hq => by
    obtain ⟨p0, p1⟩ := K.lo hn hp
    obtain ⟨q0, q1⟩ := K.lo hn hq
    rw [early_lo p0 p1 q0 q1]
    by_cases h : p.1 ≤ q.1
    · rw [if_pos h]
      constructor
      · intro z
        exact ⟨fun _ => z, fun z2 => absurd z2 (by omega)⟩
      · intro z
        exact z.1 h
    · rw [if_neg h]
      constructor
      · intro z
        exact ⟨fun z2 => absurd z2 h, fun _ => z⟩
      · intro z
        exact z.2 (by omega)
  constructor
  · intro k p hp q hq
    obtain ⟨r, hr, e⟩ := (K.mem p).mp hp
    obtain ⟨o, ho, e'⟩ := (K.mem q).mp hq
    refine (key p hp q hq).mp ?_
    rw [← e, ← e']
    exact (early_pair hn r o).mp (k r hr o ho)
  · intro k r hr o ho
    have hp := (K.mem (down n r)).mpr ⟨r, hr, rfl⟩
    have hq := (K.mem (down n o)).mpr ⟨o, ho, rfl⟩
    exact (early_pair hn r o).mpr ((key _ hp _ hq).mpr (k _ hp _ hq))
/-- two rows on one day of the period, served otherwise: no rule serves both -/
theorem not_kept_dup (hn : 0 < n) {r o : Row} (hr : r ∈ rows) (ho : o ∈ rows) (h : (down n r).1 = (down n o).1) (h2 : (down n r).2 ≠ (down n o).2) : ¬ Kept n rows := fun k => by
  have a := (early_pair hn r o).mp (k r hr o ho)
  have b := (early_pair hn o r).mp (k o ho r hr)
  rw [← h, early_self] at a
  rw [h, early_self] at b
  exact h2 (Int.le_antisymm a b)
theorem not_kept_drop (hn : 0 < n) (K : Known n rows known) {i : Nat} (h : i + 1 < known.length) (q : (at_ known (i + 1)).2 < (at_ known i).2) : ¬ Kept n rows := fun k => by
  have z := (K.kept hn).mp k _ (at_mem (show i < known.length by omega)) _ (at_mem h)
  have := z.1 (Int.le_of_lt (K.lt (Nat.lt_succ_self i) h))
  omega
theorem not_kept_far (hn : 0 < n) (K : Known n rows known) (h0 : 0 < known.length) (q : (at_ known 0).2 + n < (at_ known (known.length - 1)).2) : ¬ Kept n rows := fun k => by
  have z := (K.kept hn).mp k _ (at_mem (show known.length - 1 < known.length by omega)) _ (at_mem h0)
  by_cases e : known.length = 1
  · rw [show known.length - 1 = 0 by omega] at q
    omega
  · have := z.2 (K.lt (show 0 < known.length - 1 by omega) (by omega))
    omega
theorem up_all {l : List Row} (h : ∀ i, i + 1 < l.length → (at_ l i).2 ≤ (at_ l (i + 1)).2) (i : Nat) : ∀ k, i + k < l.length → (at_ l i).2 ≤ (at_ l (i + k)).2
  | 0, _ => Int.le_refl _
  | k + 1, hk => Int.le_trans (up_all h i k (by omega)) (h (i + k) (by omega))
theorem up_all' {l : List Row} (h : ∀ i, i + 1 < l.length → (at_ l i).2 ≤ (at_ l (i + 1)).2) {i j : Nat} (hij : i ≤ j) (hj : j < l.length) : (at_ l i).2 ≤ (at_ l j).2 := by
  have := up_all h i (j - i) (by omega)
  rw [show i + (j - i) = j by omega] at this
  exact this
theorem kept_of (hn : 0 < n) (K : Known n rows known) (h : ∀ i, i + 1 < known.length → (at_ known i).2 ≤ (at_ known (i + 1)).2) (q : (at_ known (known.length - 1)).2 ≤ (at_ known 0).2 + n) : Kept n rows := by
  refine (K.kept hn).mpr fun p hp o ho => ?_
  obtain ⟨i, hi, rfl⟩ := mem_at hp
  obtain ⟨j, hj, rfl⟩ := mem_at ho
  constructor
  · intro z
    by_cases e : i ≤ j
    · exact up_all' h e hj
    · have := K.lt (show j < i by omega) hi
      omega
  · intro _
    have a := up_all' h (show i ≤ known.length - 1 by omega) (by omega)
    have b := up_all' h (show 0 ≤ j by omega) hj
    omega
/-- the days filled up from the front: at what is known up to a day -/
theorem fill_gr (hn : 0 < n) (h0 : rows ≠ []) (K : Known n rows known) (k : Kept n rows) {c : Nat} {d : Int} (hc : c ≤ known.length) (d0 : 0 ≤ d) (d1 : d < n) (lo : ∀ i, i < c → (at_ known i).1 ≤ d) (hi : ∀ i, c ≤ i → i < known.length → d < (at_ known i).1) :
    (if c = 0 then (at_ known (known.length - 1)).2 - n else (at_ known (c - 1)).2) = gr n rows d := by
  have hp := K.pos h0
  have kk := (K.kept hn).mp k
  have val : ∀ i, i < known.length → early n (at_ known i) d = if i < c then (at_ known i).2 else (at_ known i).2 - n := fun i h => by
    obtain ⟨a, b⟩ := K.lo hn (at_mem h)
    rw [early_lo a b d0 d1]
    by_cases e : i < c
    · rw [if_pos e, if_pos (lo i e)]
    · rw [if_neg e, if_neg (by have := hi i (by omega) h; omega)]
  have up : ∀ i, i < known.length → early n (at_ known i) d ≤ (if c = 0 then (at_ known (known.length - 1)).2 - n else (at_ known (c - 1)).2) := fun i h => by
    rw [val i h]
    by_cases e : c = 0
    · rw [if_neg (by omega), if_pos e]
      by_cases e2 : i = known.length - 1
      · rw [e2]
        exact Int.le_refl _
      · have := (kk _ (at_mem h) _ (at_mem (show known.length - 1 < known.length by omega))).1 (Int.le_of_lt (K.lt (show i < known.length - 1 by omega) (by omega)))
        omega
    · rw [if_neg e]
      by_cases e2 : i < c
      · rw [if_pos e2]
        by_cases e3 : i = c - 1
        · rw [e3]
          exact Int.le_refl _
        · exact (kk _ (at_mem h) _ (at_mem (show c - 1 < known.length by omega))).1 (Int.le_of_lt (K.lt (show i < c - 1 by omega) (by omega)))
      · rw [if_neg e2]
        exact (kk _ (at_mem h) _ (at_mem (show c - 1 < known.length by omega))).2 (K.lt (show c - 1 < i by omega) h)
  have one : ∃ i, i < known.length ∧ early n (at_ known i) d = (if c = 0 then (at_ known (known.length - 1)).2 - n else (at_ known (c - 1)).2) := by
    by_cases e : c = 0
    · refine ⟨known.length - 1, by omega, ?_⟩
      rw [val _ (by omega), if_neg (by omega), if_pos e]
    · refine ⟨c - 1, by omega, ?_⟩
      rw [val _ (by omega), if_pos (by omega), if_neg e]
  refine Int.le_antisymm ?_ (gr_le h0 fun r hr => ?_)
  · obtain ⟨i, h, e⟩ := one
    obtain ⟨r, hr, e2⟩ := (K.mem _).mp (at_mem h)
    rw [← e, ← e2, early_down hn]
    exact le_gr hr
  · obtain ⟨i, h, e⟩ := mem_at ((K.mem (down n r)).mpr ⟨r, hr, rfl⟩)
    rw [← early_down hn, ← e]
    exact up i h
/-- .. from the back -/
theorem fill_le (hn : 0 < n) (h0 : rows ≠ []) (K : Known n rows known) (k : Kept n rows) {c : Nat} {d : Int} (hc : c ≤ known.length) (d0 : 0 ≤ d) (d1 : d < n) (lo : ∀ i, i < c → (at_ known i).1 < d) (hi : ∀ i, c ≤ i → i < known.length → d ≤ (at_ known i).1) :
    (if c = known.length then (at_ known 0).2 + n else (at_ known c).2) = le n rows d := by
  have hp := K.pos h0
  have kk := (K.kept hn).mp k
  have val : ∀ i, i < known.length → late n (at_ known i) d = if c ≤ i then (at_ known i).2 else (at_ known i).2 + n := fun i h => by
    obtain ⟨a, b⟩ := K.lo hn (at_mem h)
    rw [late_lo a b d0 d1]
    by_cases e : c ≤ i
    · rw [if_pos e, if_pos (hi i e h)]
    · rw [if_neg e, if_neg (by have := lo i (by omega); omega)]
  have up : ∀ i, i < known.length → (if c = known.length then (at_ known 0).2 + n else (at_ known c).2) ≤ late n (at_ known i) d := fun i h => by
    rw [val i h]
    by_cases e : c = known.length
    · rw [if_pos e, if_neg (by omega)]
      by_cases e2 : i = 0
      · rw [e2]
        exact Int.le_refl _
      · have := (kk _ (at_mem hp) _ (at_mem h)).1 (Int.le_of_lt (K.lt (show 0 < i by omega) h))
        omega
    · rw [if_neg e]
      by_cases e2 : c ≤ i
      · rw [if_pos e2]
        by_cases e3 : i = c
        · rw [e3]
          exact Int.le_refl _
        · exact (kk _ (at_mem (show c < known.length by omega)) _ (at_mem h)).1 (Int.le_of_lt (K.lt (show c < i by omega) h))
      · rw [if_neg e2]
        have := (kk _ (at_mem (show c < known.length by omega)) _ (at_mem h)).2 (K.lt (show i < c by omega) (by omega))
        omega
  have one : ∃ i, i < known.length ∧ late n (at_ known i) d = (if c = known.length then (at_ known 0).2 + n else (at_ known c).2) := by
    by_cases e : c = known.length
    · refine ⟨0, by omega, ?_⟩
      rw [val _ (by omega), if_neg (by omega), if_pos e]
    · refine ⟨c, by omega, ?_⟩
      rw [val _ (by omega), if_pos (by omega), if_neg e]
  refine Int.le_antisymm (le_le' h0 fun r hr => ?_) ?_
  · obtain ⟨i, h, e⟩ := mem_at ((K.mem (down n r)).mpr ⟨r, hr, rfl⟩)
    rw [← late_down hn, ← e]
    exact up i h
  · obtain ⟨i, h, e⟩ := one
    obtain ⟨r, hr, e2⟩ := (K.mem _).mp (at_mem h)
    rw [← e, ← e2, late_down hn]
    exact le_le hr
end
/-! ### all days of a period tell the rule -/
theorem ends_gr {days : List Int} (t : IsTab days) {rows : List Row} {a : Int} (h : ∀ r, r ∈ rows → onD days r.1 = r.2) (h2 : ∀ i : Nat, i < days.length → (a + i, onD days (a + i)) ∈ rows) (x : Int) : gr days.length rows x = onD days x ∧ le days.length rows x = onD days x := by
  have hp := t.pos
  have hn : (0 : Int) < days.length := by omega
  have h0 : rows ≠ [] := List.ne_nil_of_mem (h2 0 hp)
  have k := kept_rule hn t.rule h
  have b0 := Int.emod_nonneg (x - a) (show (days.length : Int) ≠ 0 by omega)
  have b1 := Int.emod_lt_of_pos (x - a) hn
  have hm := h2 ((x - a) % days.length).toNat (by omega)
  rw [Int.toNat_of_nonneg b0] at hm
  have e : x = a + (x - a) % days.length + (x - a) / days.length * days.length := by
    have := Int.emod_add_mul_ediv (x - a) days.length
    rw [Int.mul_comm] at this
    omega
  have g := gr_row k hm
  have l := le_row k hm
  constructor
  · rw [e, (gr_rule hn h0).shift, t.rule.shift]
    rw [show gr days.length rows (a + (x - a) % days.length) = onD days (a + (x - a) % days.length) from g]
  · rw [e, (le_rule hn h0).shift, t.rule.shift]
    rw [show le days.length rows (a + (x - a) % days.length) = onD days (a + (x - a) % days.length) from l]
end K16
set_option maxRecDepth 100000
set_option maxHeartbeats 4000000
/-! Rules that the layer lacks and this law wants. -/
namespace K16
open PySem PySem.Spec PyProof.Rows L2

/-! ### heaps: what is kept; a heap without one address -/
def cut (p : Addr) (H : Hp) : Hp := fun b => if b = p then none else H b
theorem cut_ne {p b : Addr} {H : Hp} (h : b ≠ p) : cut p H b = H b := if_neg h
theorem cut_self {p : Addr} {H : Hp} : cut p H p = none := if_pos rfl
theorem cut_same (p : Addr) (H : Hp) : Same (cut p H) H := fun b o e => by
  by_cases h : b = p
  · rw [h, cut_self] at e
    cases e
  · rw [cut_ne h] at e
    exact e
theorem cut_has {p b : Addr} {H : Hp} {o : HO} (e : cut p H b = some o) : b ≠ p ∧ H b = some o := by
  refine ⟨fun h => ?_, cut_same p H _ _ e⟩
  rw [h, cut_self] at e
  cases e
theorem same_cut {p : Addr} {H H' : Hp} (s : Same H H') : Same (cut p H) (cut p H') := fun b o e => by
  obtain ⟨n, e⟩ := cut_has e
  rw [cut_ne n]
  exact s b o e
theorem same_new {H : Hp} {p : Addr} {o : HO} (h : H p = none) : Same H (upd H p o) := fun b x e => by
  rw [upd_ne (ne_of_none e h)]
  exact e
theorem cut_upd {p : Addr} {H : Hp} {o : HO} : Same (cut p H) (cut p (upd H p o)) := fun b x e => by
  obtain ⟨n, e⟩ := cut_has e
  rw [cut_ne n, upd_ne n]
  exact e
/-- a store to an address that another heap does not know -/
theorem same_off {H H' : Hp} {p : Addr} {o : HO} (s : Same H H') (h : H p = none) : Same H (upd H' p o) := fun b x e => by
  rw [upd_ne (ne_of_none e h)]
  exact s b x e

/-! ### a call that knows that no guard stands around -/
structure FnG (P : Program) (w : World) (K : PySem.W.Frag) (mg : Str → Option Value) (base : Heap) (k : Nat) (f : Addr) (fd : FuncData) (ps : List Str) (sp : Sp) : Prop where
  len : ∀ vs H Q E, sp vs H Q E → vs.length = ps.length
  run : ∀ (A : Around) (outer : List Env) (s : Shared) (H : Hp) (args : Args) (us : List Value) (vs : List V) (Q : VK) (E : XK), A.guards = some [] → Room k A → Env0 P w K mg base A outer s H →
    BindsTo s fd args (ps.zip us) → Vals vs us → sp vs H Q E → codeAny (model P w) A (.call (.ref f) args) (CR CX0 outer P w H s Q E) s
section
variable {X : Cx} {k : Nat} {f : Addr} {fd : FuncData} {ps : List Str} {sp : Sp} {x : Str} {p pos : Pos} {e : Expr} {es : List Expr} {t tk : TA}
theorem pe_callG (F : FnG X.prog X.w X.K X.mg X.base k f fd ps sp) (g0 : X.A.guards = some []) (hr : Room k X.A) (hg : Gl X x) (hm : X.mg x = some (.ref f)) (hk : PySem.W.keepIn X.K (.ref f) = true) (hb : Binds X.K fd ps [])
    (ha : PA X (e :: es) t) (hdb : (x == ("__debug__" : Str)) = false := by decide) (he : starEach (e :: es) X.env = (false, eval e X.env) :: starEach es X.env := by rfl)
    (hpl : (backTo pos (starEach es X.env)).any (·.1) = false := by rfl) : PE X (.Call (.Name x p) (e :: es) [] pos) (fun σ H Q => t σ H fun vs H1 => sp vs H1 Q E0) := by
  refine ⟨fun pins s σ H Q I h => wpAny_Call_Name_kw (ld_glob I hg hm ?_ hdb)⟩
  have args := thn (ha.run pos pins s σ H _ I h) (Q' := fun us s1 => X.K.In s1.heap ∧ wpAny (model X.prog X.w) X.A (call (.ref f) ([] ++ us)) (EP X pins σ Q) X.xe s1) fun us s1 ⟨vs, H1, I1, r, q⟩ => by
    refine ⟨I1.kIn, wpAny_call ?_⟩
    have hl : us.length = ps.length := by
      rw [← r.length]
      exact F.len _ _ _ _ q
    have hb1 := hb s1 us I1.kIn (by rw [List.append_nil]; exact hl)
    rw [List.append_nil] at hb1
    refine codeAny_mono (F.run X.A X.stack s1 H1 ⟨us, []⟩ us vs Q E0 g0 hr I1.env0 hb1 r q) fun res s' z => ?_
    match res, z with
    | .error _, z => exact False.elim z
    | .ok (.ret u), z => exact I1.after z
    | .ok .next, z => exact False.elim z
    | .ok .brk, z => exact False.elim z
    | .ok .cont, z => exact False.elim z
  exact PySem.W.callWith_K (h₀ := X.base) I.ok.mod.kin hk args he hpl
/-- f(k = v, ..), keywords alone -/
theorem pe_callK0 {ks : List Str} {g : List Value → List Value → List Value} {gV : List V → List V → List V} {kws : List Keyword} (F : FnOk X.prog X.w X.K X.mg X.base CX0 k f fd ps sp) (hr : Room k X.A) (hg : Gl X x) (hm : X.mg x = some (.ref f)) (hk : PySem.W.keepIn X.K (.ref f) = true)
    (hb : KBinds X.K fd ps ks g gV) (hkw : PK X kws tk) (hall : (backToKw pos (keywordEach kws X.env)).all (·.1.isSome) = true := by rfl) (hks : (backToKw pos (keywordEach kws X.env)).filterMap (·.1) = ks := by rfl)
    (hdb : (x == ("__debug__" : Str)) = false := by decide) (hpl : ((backTo pos (starEach [] X.env)).any (·.1) || (backToKw pos (keywordEach kws X.env)).any (·.1.isNone)) = false := by rfl) :
    PE X (.Call (.Name x p) [] kws pos) (tCallK sp gV E0 tNil tk) := by
  refine ⟨fun pins s σ H Q I h => wpAny_Call_Name_kw (ld_glob I hg hm ?_ hdb)⟩
  refine PySem.W.callWith_KW0 (h₀ := X.base) I.ok.mod.kin hk hall (thn (hkw.run pos pins s σ H _ I h) fun ws s2 z => ?_) hpl
  obtain ⟨zs, H2, I2, rz, q2⟩ := z
  refine ⟨I2.kIn, ?_⟩
  rw [hks]
  exact run_fnk (us := []) (vs := []) F hr hb pass0 I2 .nil rz q2
end
section
variable {P : Program} {w : World} {K : PySem.W.Frag} {mg : Str → Option Value} {base : Heap}
/-- a def by its body, where no guard stands around -/
theorem okG {x qual : Str} {st : Stmt} {f : Addr} {fd : FuncData} {N ps : List Str} {k : Nat} {sp : Sp} (F : Fun K x qual st f fd) (S : FnScope N ps (defScope st)) (len : ∀ vs H Q E, sp vs H Q E → vs.length = ps.length)
    (body : ∀ (cdv : Value) (A : Around) (outer : List Env) (s : Shared) (H : Hp) (vs : List V) (Q : VK) (E : XK), A.guards = some [] → Room k (A.deeper (envOfC qual (defScope st) s.heap.objs.size f cdv)) → sp vs H Q E →
      ∃ t, PSs (cxOf CX0 P w K mg base N qual (defScope st) f cdv A outer s H E).nox (defBody st) t ∧ t { nx := fun _ H' => Q .non H', rt := Q } (start N vs) H) : FnG P w K mg base (k + 1) f fd ps sp := by
  obtain ⟨oc, od, kV, doc, pm, an, cdv, ct, osl, rfl, lk, hcd⟩ := F.ex
  refine ⟨len, fun A outer s H args us vs Q E g0 hr e0 hb r hsp => ?_⟩
  have old : ∀ b o, base.get? b = some o → s.heap.get? b = some o := fun b o e => (e0.bs b o e).1
  have kin : K.In s.heap := e0.mod.kin.keeps old
  have free : s.heap.NoLimit := e0.mod.nolimit.keeps old
  have kinds : ∀ y ∈ ps.zip us, (defScope st).names.lookup y.1 = some .local ∨ ((defScope st).names.lookup y.1 = some .cell ∧ ((cellsFrom (s.heap.objs.size + 1) (defScope st).names []).lookup y.1).isSome = true) := by
    rintro ⟨n, v⟩ hy
    rcases S.par n (List.of_mem_zip hy).1 with q | q
    · exact .inl q
    · exact .inr ⟨q, PySem.W.cellsFrom_some _ _ _ (.inl q)⟩
  refine codeAny_call_function hr.depth (kin _ _ lk) rfl S.co S.gen rfl (PySem.W.codeRec_of kin hcd) (hb _ _ _ _ (wpAny_newFunctionEnv_cells S.kind kinds fun env he s1 inn => ?_))
  subst he
  refine ⟨free.keeps inn.toInCall.keep, codeAny_func ?_⟩
  obtain ⟨t, ht, hq⟩ := body cdv A outer s H vs Q E g0 (hr.deeper _) hsp
  have I := inv_start (CX := CX0) (E := E) (mg := mg) S hr.hd e0 (len _ _ _ _ hsp) r inn
  refine wpAny_mono (ht.nox.run [] s1 (start N vs) H _ I hq) (fun fl s' z => ?_) fun _ _ z => z
  have done : ∀ {σ' : L2.St} {H' : Hp} {v : V} {u : Value}, Inv (cxOf CX0 P w K mg base N qual (defScope st) f cdv A outer s H E) [] σ' H' s' → RelV v u → Q v H' → CE outer P w H s Q u s' := fun {σ' H' v u} J rv q => ⟨v, H', J.os, J.bare, J.base, J.hok, rv, q⟩
  match fl, z with
  | .ret u, ⟨v, σ', H', J, rv, q⟩ => exact done J rv q
  | .next, ⟨σ', H', J, q⟩ => exact done (v := V.non) (u := Value.none) J rfl q
  | .brk, ⟨_, _, _, q⟩ => exact False.elim q
  | .cont, ⟨_, _, _, q⟩ => exact False.elim q
end

/-! ### repr of data at any depth -/
def rRepr (K : PySem.W.Frag) : List V → Hp → VK → Prop := fun xs H Q => ∃ (a : Addr) (d : PyData), xs = [.ref a] ∧ Dp K H (.ref a) d ∧ d.showable = true ∧ d.hasDict = false ∧ d.depth ≤ 8 ∧ d.shown.length ≤ sizeLine ∧ Q (.str d.shown) H
theorem call_reprD {X : Cx} (g0 : X.A.guards = some []) (hu : X.A.units + 64 < cLine) : CallR X (.builtin "repr") (rRepr X.K) := by
  intro pins s σ H xs us Q I r h
  obtain ⟨a, d, rfl, hd, hs, hn, hdp, hz, q⟩ := h
  obtain rfl := Vals.ref1 r
  obtain ⟨as, hr⟩ := Dp.reads I d (.ref a) (.ref a) hd rfl
  exact repr_of_reads' hr hs (PyData.noDict_hsm hn) g0 (by omega) (fun _ _ e => e) (fun h' u tk hk => ⟨.str d.shown, H, I.kept (t' := tk) hk, ⟨u, rfl⟩, q⟩) hz

/-! ### math.lcm -/
def rLcm : List V → Hp → VK → Prop := fun vs H Q => ∃ a b : Int, vs = [.int a, .int b] ∧ a.natAbs < 2 ^ 64 ∧ b.natAbs < 2 ^ 64 ∧ Q (.int ((a.natAbs.lcm b.natAbs : Nat) : Int)) H
theorem cr_lcm {X : Cx} : CallR X (.builtin "math.lcm") rLcm := by
  intro pins s σ H vs us Q I r h
  obtain ⟨a, b, rfl, ha, hb, q⟩ := h
  obtain ⟨t, u, rfl⟩ := Vals.int2 r
  exact PySem.W.mc_lcm ha hb fun _ => ⟨.int _, H, I.tok _, ⟨_, rfl⟩, q⟩

/-! ### a walk over a list or a tuple -/
theorem pi_seq {X : Cx} {tg l : Expr} {tl : TE} (hl : PE X l tl) : PI X tg l (fun σ H R => iList X.K tl σ H R ∨ iTup X.K tl σ H R) :=
  ⟨fun pins s σ H R I h => h.elim (fun h => (pi_list hl).run pins s σ H R I h) fun h => (pi_tup hl).run pins s σ H R I h⟩
end K16
set_option maxRecDepth 100000
set_option maxHeartbeats 4000000
/-! sorted(d.items()), d a dict of ints by ints. -/
namespace K16
open PySem PySem.Spec PyProof.Rows L2
/-- the pairs of a dict of ints by ints -/
def kvsOf (ms : List Row) : List (Key × V) := ms.map fun m => (Sum.inl m.1, V.int m.2)
/-- rows as tuples at addresses -/
structure RowsV (H : Hp) (vs : List V) (rows : List Row) : Prop where
  len : vs.length = rows.length
  at_ : ∀ (i : Nat) (r : Row), rows[i]? = some r → ∃ t, vs[i]? = some (.ref t) ∧ H t = some (.tup [.int r.1, .int r.2])
theorem RowsV.same {H H' : Hp} {vs : List V} {rows : List Row} (h : RowsV H vs rows) (s : Same H H') : RowsV H' vs rows := ⟨h.len, fun i r e => by
  obtain ⟨t, a, b⟩ := h.at_ i r e
  exact ⟨t, a, s _ _ b⟩⟩
theorem pairs_at {prog : Program} {w : World} {K : Type} [DecidableEq K] {knd : KeyKind prog w K} : ∀ {es : List DictEntry} {kvs : List (K × Value)}, Pairs knd es kvs → ∀ {j : Nat} {kv : K × Value}, kvs[j]? = some kv → ∃ e, es[j]? = some e ∧ knd.is kv.1 e.key = true ∧ e.val = kv.2
  | _, _, .nil, j, kv, h => by simp at h
  | _, _, .cons h1 h2 t, 0, kv, h => by
    simp only [List.getElem?_cons_zero] at h
    cases h
    exact ⟨_, rfl, h1, h2⟩
  | _, _, .cons h1 h2 t, j + 1, kv, h => by
    simp only [List.getElem?_cons_succ] at h
    obtain ⟨e, a, b⟩ := pairs_at t h
    exact ⟨e, (by rw [List.getElem?_cons_succ]; exact a), b⟩
theorem paired_at {α β : Type} {F : α → β → Prop} : ∀ {xs : List α} {ys : List β}, Paired F xs ys → ∀ {j : Nat} {x : α} {y : β}, xs[j]? = some x → ys[j]? = some y → F x y
  | _, _, .nil, j, x, y, h, _ => by simp at h
  | _, _, .cons f t, 0, x, y, h, h2 => by
    simp only [List.getElem?_cons_zero] at h h2
    cases h
    cases h2
    exact f
  | _, _, .cons f t, j + 1, x, y, h, h2 => by
    simp only [List.getElem?_cons_succ] at h h2
    exact paired_at t h h2
section
variable {X : Cx}
def rItemsI : V → List V → Hp → VK → Prop := fun x xs H Q => ∃ (a : Addr) (kvs : List (Key × V)), x = .ref a ∧ xs = [] ∧ H a = some (.dK kvs) ∧ ∀ p, H p = none → Q (.ref p) (upd H p (DX.itemsO p a))
theorem mt_itemsI : MtR X "dict.items" rItemsI := by
  intro pins s σ H x xs v us Q I rx rxs h
  obtain ⟨a, kvs, rfl, rfl, ha, q⟩ := h
  cases rx
  cases rxs
  obtain ⟨_, hd, vs, _, o, es, ep, ho, hx, hdat, _⟩ := dk_of I.hok ha
  refine DT.callItems (es := es) (ep := ep) hd ⟨o, ho, hx, hdat⟩ ?_
  have J := I.laid (a := s.heap.objs.size) (o := DX.itemsO s.heap.objs.size a) (t' := s.toks) (h' := s.heap.push { cls := .type "dict_items", data := .fields #[.ref a] }) (fun b u e => Heap.get?_push_of_some _ e) (Nat.le_refl _) (DX.itemsO_ok (Heap.get?_push_size _ rfl))
  exact ⟨.ref s.heap.objs.size, _, J, rfl, q _ (I.hok.fresh (Nat.le_refl _))⟩

/-- the pairs that were made, and the list of them, laid and tracked -/
theorem lay_items {pins : List (Addr × Obj)} {σ : L2.St} {H : Hp} {s : Shared} {h2 : Heap} {tk : Nat} {ms : List Row} {as : List Addr} {L : Addr} (I : Inv X pins σ H s) (hk : ∀ b o, s.heap.get? b = some o → h2.get? b = some o)
    (hL : h2.get? L = some { cls := .type "list", data := .seq (as.map Value.ref).toArray }) (L0 : s.heap.objs.size ≤ L) (hlen : as.length = ms.length) (hz : ms.length ≤ sizeLine) (new : ∀ a, a ∈ as → s.heap.objs.size ≤ a ∧ a ≠ L) (nd : as.Nodup)
    (pr : ∀ (j : Nat) (a : Addr), as[j]? = some a → ∃ (m : Row) (t u : Tok), ms[j]? = some m ∧ h2.get? a = some { cls := .type "tuple", data := .seq #[.int m.1 t, .int m.2 u] }) :
    ∃ H1 : Hp, Same H H1 ∧ H L = none ∧ H1 L = some (.lst (as.map V.ref)) ∧ RowsV H1 (as.map V.ref) ms ∧ Inv X pins σ H1 { s with heap := h2, toks := tk } := by
  have fresh : ∀ a, s.heap.objs.size ≤ a → H a = none := fun a h => I.hok.fresh h
  have Lno : L ∉ as := fun z => (new L z).2 rfl
  have atP := LiI.putT_at as (kvsOf ms) (upd H L (.lst (as.map V.ref))) (by unfold kvsOf; rw [List.length_map]; exact hlen) nd
  generalize hH1 : LiI.putT (upd H L (.lst (as.map V.ref))) as (kvsOf ms) = H1 at atP
  have eL : H1 L = some (.lst (as.map V.ref)) := by
    rw [← hH1, LiI.putT_off as _ _ Lno, upd_same]
  have off : ∀ b, b ∉ as → b ≠ L → H1 b = H b := fun b h1 h2 => by
    rw [← hH1, LiI.putT_off as _ _ h1, upd_ne h2]
  have kp : Same H H1 := fun b u e => by
    have hb : b < s.heap.objs.size := I.hok.lt e
    rw [off b (fun z => Nat.not_lt.mpr (new b z).1 hb) (Nat.ne_of_lt (Nat.lt_of_lt_of_le hb L0))]
    exact e
  have tupAt : ∀ (j : Nat) (a : Addr) (m : Row), as[j]? = some a → ms[j]? = some m → H1 a = some (.tup [.int m.1, .int m.2]) := fun j a m h1 h2 => by
    have q := paired_at atP h1 (y := (Sum.inl m.1, V.int m.2)) (by unfold kvsOf; rw [List.getElem?_map, h2]; rfl)
    exact q
  refine ⟨H1, kp, fresh L L0, eL, ⟨by rw [List.length_map]; exact hlen, fun i r e => ?_⟩, ?_⟩
  · have hi : i < as.length := by
      have := (List.getElem?_eq_some_iff.mp e).1
      omega
    refine ⟨as[i], ?_, tupAt i _ r (List.getElem?_eq_getElem hi) e⟩
    rw [List.getElem?_map, List.getElem?_eq_getElem hi]
    rfl
  · have low : ∀ b o, s.heap.get? b = some o → b ∉ as ∧ b ≠ L := fun b o e => by
      have hb := Heap.lt_size e
      exact ⟨fun z => Nat.not_lt.mpr (new b z).1 hb, Nat.ne_of_lt (Nat.lt_of_lt_of_le hb L0)⟩
    have un : Un X.fs [] H H1 s.heap h2 := by
      refine ⟨fun b o q _ _ _ => hk b o q, fun b o q _ _ _ => ⟨o.slots, hk b o q⟩, fun b o q n _ => ?_, fun b o q _ => ⟨o, hk b o q⟩, fun b xs q => kp b _ q, fun b o u q => kp b _ q, fun b ps q => ⟨#[], ?_⟩⟩
      · obtain ⟨z1, z2⟩ := low b o q
        rw [off b z1 z2]
        exact n
      · rw [kp b _ q]
        simp
    refine I.un (t' := tk) un fun b u q => ?_
    by_cases hb : b ∈ as
    · obtain ⟨j, hj⟩ := List.mem_iff_getElem?.mp hb
      obtain ⟨m, t, u', hm, hg⟩ := pr j b hj
      rw [tupAt j b m hj hm] at q
      cases q
      exact ⟨by show 2 ≤ sizeLine; decide, [.int m.1 t, .int m.2 u'], .cons ⟨t, rfl⟩ (.cons ⟨u', rfl⟩ .nil), ⟨_, hg, rfl, _, rfl⟩⟩
    · by_cases hb2 : b = L
      · rw [hb2, eL] at q
        cases q
        rw [hb2]
        refine ⟨by rw [List.length_map]; omega, as.map Value.ref, _, LiI.vals_refs as, hL⟩
      · rw [off b hb hb2] at q
        exact (I.hok b u q).stay (fun d v _ y => hk d v y) (fun d y => kp d _ y) fun d xs y => kp d _ y

/-- inside a built-in's own step -/
theorem Inv.at1 {pins : List (Addr × Obj)} {σ : L2.St} {H : Hp} {s : Shared} (I : Inv X pins σ H s) : Inv { X with A := X.A.in1 } pins σ H s :=
  ⟨⟨I.ok.mod, I.ok.kind, I.ok.glob, I.ok.blt, I.ok.above, I.ok.inj, I.ok.has, I.ok.cab, I.ok.hd, I.ok.frames, I.ok.stk, I.ok.exf, I.ok.bs, I.ok.bsz, I.ok.noex, I.ok.exfs, I.ok.funs, I.ok.frf⟩, I.os, I.bare, I.base, I.loc, I.cell, I.free, I.freeC, I.pin, I.hok, I.len⟩
theorem Inv.of1 {pins : List (Addr × Obj)} {σ : L2.St} {H : Hp} {s : Shared} (I : Inv { X with A := X.A.in1 } pins σ H s) : Inv X pins σ H s :=
  ⟨⟨I.ok.mod, I.ok.kind, I.ok.glob, I.ok.blt, I.ok.above, I.ok.inj, I.ok.has, I.ok.cab, I.ok.hd, I.ok.frames, I.ok.stk, I.ok.exf, I.ok.bs, I.ok.bsz, I.ok.noex, I.ok.exfs, I.ok.funs, I.ok.frf⟩, I.os, I.bare, I.base, I.loc, I.cell, I.free, I.freeC, I.pin, I.hok, I.len⟩
/-- the pair of ints that stands where a reference points to -/
def pairAt (H : Hp) (v : V) : Int × Int := match v with
  | .ref t => (match H t with
    | some (.tup [.int i, .int j]) => (i, j)
    | _ => (0, 0))
  | _ => (0, 0)
theorem pairAt_of {H : Hp} {t : Addr} {i j : Int} (h : H t = some (.tup [.int i, .int j])) : pairAt H (.ref t) = (i, j) := by
  unfold pairAt
  simp only [h]
theorem rows_map {H : Hp} {vs : List V} {rows : List Row} (R : RowsV H vs rows) : vs.map (pairAt H) = rows := by
  refine List.ext_getElem? fun i => ?_
  rw [List.getElem?_map]
  cases e : rows[i]? with
  | none =>
    have := List.getElem?_eq_none_iff.mp e
    rw [List.getElem?_eq_none (by rw [R.len]; exact this)]
    rfl
  | some r =>
    obtain ⟨t, h1, h2⟩ := R.at_ i r e
    rw [h1]
    show some (pairAt H (.ref t)) = some r
    rw [pairAt_of h2]
theorem rows_mem {H : Hp} {vs : List V} {rows : List Row} (R : RowsV H vs rows) {v : V} (h : v ∈ vs) : ∃ t, v = .ref t ∧ H t = some (.tup [.int (pairAt H v).1, .int (pairAt H v).2]) := by
  obtain ⟨i, hi, e⟩ := List.mem_iff_getElem.mp h
  have hr : i < rows.length := by rw [← R.len]; exact hi
  obtain ⟨t, h1, h2⟩ := R.at_ i _ (List.getElem?_eq_getElem hr)
  rw [List.getElem?_eq_getElem hi, e] at h1
  have ev := Option.some.inj h1
  subst ev
  refine ⟨t, rfl, ?_⟩
  rw [pairAt_of h2]
  exact h2
theorem rows_of {H : Hp} {vs : List V} (h : ∀ v, v ∈ vs → ∃ t, v = .ref t ∧ H t = some (.tup [.int (pairAt H v).1, .int (pairAt H v).2])) : RowsV H vs (vs.map (pairAt H)) := by
  refine ⟨by rw [List.length_map], fun i r e => ?_⟩
  rw [List.getElem?_map] at e
  cases q : vs[i]? with
  | none =>
    rw [q] at e
    cases e
  | some v =>
    rw [q] at e
    have e := Option.some.inj e
    obtain ⟨t, ev, ht⟩ := h v (List.mem_of_getElem? q)
    subst ev
    refine ⟨t, rfl, ?_⟩
    rw [← e]
    exact ht
def rSortItems : List V → Hp → VK → Prop := fun vs H Q => ∃ (p a : Addr) (ms : List Row), vs = [.ref p] ∧ H p = some (DX.itemsO p a) ∧ H a = some (.dK (kvsOf ms)) ∧ (ms.map (·.1)).Nodup ∧
  ∀ (H' : Hp) (l : Addr) (zs : List V) (known : List Row), Same H H' → H l = none → known.Perm ms → known.Pairwise (fun p q => p.1 < q.1) → H' l = some (.lst zs) → RowsV H' zs known → Q (.ref l) H'
theorem sorted_items (hc : X.calm = true) : CallR X (.builtin "sorted") rSortItems := by
  intro pins s σ H vs us Q I r h
  obtain ⟨p, a, ms, rfl, hp, ha, hnd, q⟩ := h
  obtain rfl := Vals.ref1 r
  have view : s.heap.IsItemsView p a := (show ObjOk X.prog X.w H s.heap p (DX.itemsO p a) from I.hok p _ hp).1
  obtain ⟨hz, hd, xs, kv, o, es, ep, ho, hx, hdat, hkey, hpr, _⟩ := dk_of I.hok ha
  have l1 : ms.length = xs.length := by
    have := Paired.length kv
    unfold kvsOf at this
    rw [List.length_map] at this
    exact this
  have l2 : es.size = xs.length := by
    rw [← hpr.length, Array.length_toList]
  have hz2 : ms.length ≤ sizeLine := by
    unfold kvsOf at hz
    rw [List.length_map] at hz
    exact hz
  refine DT.sortedI (es := es) (ep := ep) (I.ok.hd hc) view ⟨o, ho, hx, hdat⟩ (by omega) fun h' tk as hk hlt hl hG => ?_
  have nd : as.Nodup := List.Pairwise.imp (fun h => Nat.ne_of_lt h) hG.rise
  have hob : (h'.push { cls := .type "list", data := .seq (as.map Value.ref).toArray }).get? h'.objs.size = some { cls := .type "list", data := .seq (as.map Value.ref).toArray } := Heap.get?_push_size _ rfl
  obtain ⟨H1, s1, n1, e1, R1, J⟩ := lay_items (tk := tk) (ms := ms) I (fun b o e => Heap.get?_push_of_some _ (hk b o e)) hob (Nat.le_of_lt hlt) (by omega) hz2 (fun b hb => ⟨Nat.le_of_lt (hG.above b hb), Nat.ne_of_lt (hG.there hb)⟩) nd (fun j b hj => by
    obtain ⟨en, he, hg⟩ := hG.pairs j b hj
    have hjl : j < ms.length := by
      have := (List.getElem?_eq_some_iff.mp hj).1
      omega
    have hxj : xs[j]? = some (xs[j]'(by omega)) := List.getElem?_eq_getElem _
    obtain ⟨en', he', hi, hv⟩ := pairs_at hpr hxj
    have ee : en' = en := by
      rw [Array.getElem?_toList] at he'
      rw [he] at he'
      exact (Option.some.inj he').symm
    subst ee
    have hm : ms[j]? = some (ms[j]'hjl) := List.getElem?_eq_getElem _
    have rel := paired_at kv (show (kvsOf ms)[j]? = some (Sum.inl (ms[j]'hjl).1, V.int (ms[j]'hjl).2) by unfold kvsOf; rw [List.getElem?_map, hm]; rfl) hxj
    obtain ⟨r1, t2, r2⟩ := rel
    have r1 : (Sum.inl (ms[j]'hjl).1 : Key) = (xs[j]'(by omega)).1 := r1
    rw [← r1] at hi
    obtain ⟨t1, ek⟩ := Value.isInt_shape (show Value.isInt (ms[j]'hjl).1 en'.key = true from hi)
    refine ⟨_, t1, t2, hm, Heap.get?_push_of_some _ ?_⟩
    rw [hg, ek, hv, r2])
  have J1 := Inv.at1 J
  have sort := mt_sortPO (X := { X with A := X.A.in1 }) pins { s with heap := h'.push { cls := .type "list", data := .seq (as.map Value.ref).toArray }, toks := tk } σ H1 (.ref h'.objs.size) [] (.ref h'.objs.size) [] (fun v H2 => v = .non ∧ ∃ zs, SrtO.Srtd (ltP (pairAt H1)) zs ∧ SrtO.Stb (ltP (pairAt H1)) zs (as.map V.ref) ∧ H2 = upd H1 h'.objs.size (.lst zs)) J1 rfl .nil
    ⟨_, _, pairAt H1, rfl, rfl, e1, fun y hy => rows_mem R1 hy, fun zs z1 z2 => ⟨rfl, zs, z1, z2, rfl⟩⟩
  refine thn sort fun u s' z => ?_
  obtain ⟨v, H2, J2, _, _, zs, z1, z2, rfl⟩ := z
  have mem : ∀ v, v ∈ zs → ∃ t, v = .ref t ∧ H1 t = some (.tup [.int (pairAt H1 v).1, .int (pairAt H1 v).2]) := fun v hv => rows_mem R1 (z2.perm.mem_iff.mp hv)
  have Rz := rows_of mem
  have Rz2 : RowsV (upd H1 h'.objs.size (.lst zs)) zs (zs.map (pairAt H1)) := ⟨Rz.len, fun i r e => by
    obtain ⟨t, a, b⟩ := Rz.at_ i r e
    refine ⟨t, a, ?_⟩
    rw [upd_ne (ne_of b e1 (by intro z; cases z))]
    exact b⟩
  have pm : (zs.map (pairAt H1)).Perm ms := by
    have := z2.perm.map (pairAt H1)
    rw [rows_map R1] at this
    exact this
  refine ⟨.ref h'.objs.size, _, Inv.of1 J2, rfl, q _ _ zs _ (same_off s1 n1) n1 pm ?_ upd_same Rz2⟩
  have up : (zs.map (pairAt H1)).Pairwise fun p q => ¬ (q.1 < p.1) := by
    refine List.pairwise_map.mpr (List.Pairwise.imp (fun {x y} h => ?_) z1)
    have := SrtO.lexB_no.mp h
    omega
  have ne : (zs.map (pairAt H1)).Pairwise fun p q => p.1 ≠ q.1 := by
    have h2 : ((zs.map (pairAt H1)).map (·.1)).Nodup := (pm.map (·.1)).nodup_iff.mpr hnd
    exact List.pairwise_map.mp h2
  exact List.Pairwise.imp (fun {x y} h => by omega) (List.Pairwise.and up ne)
end
end K16
set_option maxRecDepth 100000
set_option maxHeartbeats 4000000
/-! x != y of two instances of an own class that has its own ==, and no != of its own. -/
namespace K16
open PySem PySem.Spec PyProof.Rows L2 PySem.W
section
variable {M : Model} {A : Around} {E : Value → Shared → Prop} {s : Shared} {K : Frag} {x C : Addr} {ox : Obj} {od : Option Obj} {name : Str} {id : String} {args : List Value}
theorem special_blt {Q : Option Value → Shared → Prop} (X : K.In s.heap) (J : InstAt s.heap x ox C od) (hs : findIn K (.ref C) name = some (some (.builtin id))) (hb : ∀ self, bindSpecial (.builtin id) self = pure (.builtin id, [self]))
    (h : wpAny M A (call (.builtin id) (.ref x :: args)) (fun v => Q (some v)) E s) : wpAny M A (callSpecialIfBound? (.ref x) name args) Q E s := by
  have last : wpAny M A (do let v ← call (.builtin id) ([.ref x] ++ args); pure (some v)) Q E s := wpAny_bind (wpAny_mono h (fun v s' z => wpAny_pure z) fun _ _ z => z)
  simp only [callSpecialIfBound?, bindSpecialIfBound?]
  refine wpAny_holding (wpAny_bind (wpAny_bind (wpAny_bind (J.type.here ((looks_findIn X hs).here ?_)))))
  refine wpAny_bind (wpAny_askSetting (wpAny_ite ?_))
  split
  · rw [hb]
    exact wpAny_bind (wpAny_pure (wpAny_pure last))
  · rw [hb]
    exact wpAny_tryCatch (wpAny_bind (wpAny_pure (wpAny_pure last)))
end
section
variable {prog : Program} {w : World} {A : Around} {E : Value → Shared → Prop} {s : Shared} {K : Frag} {a b C f : Addr} {ox oy : Obj} {od od' : Option Obj}
theorem own_ne {Q : Value → Shared → Prop} (hu : A.units + 4 < cLine) (X : K.In s.heap) (J : InstAt s.heap a ox C od) (J' : InstAt s.heap b oy C od') (he : findIn K (.ref C) "__eq__" = some (some (.ref f))) (hf : isFn K (.ref f) = true)
    (hn : findIn K (.ref C) "__ne__" = some (some (.builtin "object.__ne__"))) (hm : mroIn K C (.type "object") = some true) (h : wpAny (model prog w) A.in1 (call (.ref f) [.ref a, .ref b]) (fun v s' => ∃ k, v = .bool k ∧ Q (.bool (!k)) s') E s) :
    wpAny (model prog w) A (richCompare .NotEq (.ref a) (.ref b)) Q E s := by
  have one : wpAny (model prog w) A (call (.builtin "object.__ne__") [.ref a, .ref b]) (fun v s' => ∃ k, v = .bool k ∧ Q (.bool k) s') E s := by
    refine wpAny_call (codeAny_call_builtin PySem.F.cmp_object.ne.plain PySem.F.cmpEntry_ne (check_slot (i := "object.__ne__") (owner := "object") (n := "__ne__") PySem.F.cmpKind_ne PySem.F.cmpSplit_ne (J.type.andThen (looks_mroIn X hm)) (PySem.F.cmpArgs_ne _ _) ?_))
    unfold Builtin.«object.__ne__»
    refine wpAny_bind (m := slotArgs "__ne__" 1 _) (wpAny_pure ?_)
    refine wpAny_bind (m := cRoomFor _ _) (wpAny_cRoomFor (by show A.units + 1 < cLine; omega) ?_)
    refine wpAny_bind (m := callSpecialIfBound? (.ref a) (Str.ofString "__eq__") [.ref b]) (ifBound_K X J he hf (wpAny_mono h (fun v s' z => ?_) fun _ _ z => z))
    obtain ⟨k, rfl, q⟩ := z
    show wpAny _ _ (truthy (.bool k) >>= _) _ _ _
    refine wpAny_bind (wpAny_truthy_bool (wpAny_pure (show ∃ k', Value.bool (!k) = Value.bool k' ∧ Q (.bool k') s' from ⟨!k, rfl, q⟩)))
  have two : wpAny (model prog w) A (tryCompare (.ref a) "__ne__" (.ref b)) (fun r s' => ∃ k, r = some (.bool k) ∧ Q (.bool k) s') E s := by
    unfold tryCompare
    refine wpAny_bind (special_blt X J hn PySem.F.cmp_object.ne.bind (wpAny_mono one (fun v s' z => ?_) fun _ _ z => z))
    obtain ⟨k, rfl, q⟩ := z
    exact wpAny_pure ⟨k, rfl, q⟩
  unfold richCompare
  simp only [oneThing_ref]
  refine wpAny_holding (wpAny_bind (wpAny_cRoomFor (by omega) ?_))
  refine wpAny_bind (J.type.here (wpAny_bind (J'.type.here ?_)))
  rw [if_neg (by simp)]
  refine wpAny_bind (wpAny_pure ?_)
  simp only [Bool.false_eq_true, if_false]
  refine wpAny_bind (wpAny_mono two (fun r s' z => ?_) fun _ _ z => z)
  obtain ⟨k, rfl, q⟩ := z
  exact wpAny_pure q
end
/-- what the own == promises, denied -/
def rNeI (C : Addr) (sp : Sp) : R2 := fun x y H Q => ∃ a b dx dy fs gs, x = .ref a ∧ y = .ref b ∧ H a = some (.ins C dx fs) ∧ H b = some (.ins C dy gs) ∧ sp [.ref a, .ref b] H (fun v H' => ∃ k, v = .bl k ∧ Q (.bl (!k)) H') E0
theorem op_neI {X : Cx} {n : Nat} {C f : Addr} {fd : FuncData} {ps : List Str} {sp : Sp} (F : FnOk X.prog X.w X.K X.mg X.base CX0 n f fd ps sp) (hr : Room (n + 1) X.A) (he : findIn X.K (.ref C) "__eq__" = some (some (.ref f))) (hf : isFn X.K (.ref f) = true)
    (hb : Binds X.K fd ps []) (hn : findIn X.K (.ref C) "__ne__" = some (some (.builtin "object.__ne__"))) (hm : mroIn X.K C (.type "object") = some true) : OpR X (compareOp .NotEq) (rNeI C sp) := by
  intro pins s σ H x y v u Q I rx ry h
  obtain ⟨a, b, dx, dy, fs, gs, rfl, rfl, ha, hb', q⟩ := h
  cases rx
  cases ry
  obtain ⟨mA, J, _⟩ := ins_get I.hok ha
  obtain ⟨mB, J', _⟩ := ins_get I.hok hb'
  obtain ⟨od, J, _⟩ := J.look
  obtain ⟨od', J', _⟩ := J'.look
  have hu := hr.units
  show wpAny (model X.prog X.w) X.A (richCompare .NotEq (.ref a) (.ref b)) (EP X pins σ Q) X.xe s
  refine own_ne (by omega) I.kIn J J' he hf hn hm ?_
  have hl := F.len _ _ _ _ q
  have r2 : Vals [V.ref a, V.ref b] [Value.ref a, Value.ref b] := .cons rfl (.cons rfl .nil)
  have hb1 := hb s [.ref a, .ref b] I.kIn (by rw [← hl]; rfl)
  refine wpAny_call (codeAny_mono (F.run X.A.in1 X.stack s H ⟨[.ref a, .ref b], []⟩ [.ref a, .ref b] [.ref a, .ref b] _ E0 hr.in1 I.env0.in1 hb1 r2 q) fun res s' z => ?_)
  match res, z with
  | .error _, z => exact False.elim z
  | .ok (.ret w), z =>
    obtain ⟨v, H', I', rv, k, ev, q'⟩ := I.after z
    subst ev
    cases rv
    exact ⟨k, rfl, .bl (!k), H', I', rfl, q'⟩
  | .ok .next, z => exact False.elim z
  | .ok .brk, z => exact False.elim z
  | .ok .cont, z => exact False.elim z
end K16
set_option maxRecDepth 100000
set_option maxHeartbeats 4000000
/-! The text by places; objects; comprehensions. -/
namespace K16
open PySem PySem.Spec PyProof.Rows L2
/-! ### the text by places -/
def top (i : Nat) : Stmt := PySem.Challenge.pw_leadrules_k16_whole_rules_through_rows.main.body.getD i (.Pass ⟨0, 0, 0, 0⟩)
abbrev sInteger : Stmt := top 11
abbrev sList : Stmt := top 12
abbrev sDay : Stmt := top 13
abbrev sCount : Stmt := top 14
abbrev sWantDay : Stmt := top 15
abbrev sWantCount : Stmt := top 16
abbrev sWantMost : Stmt := top 17
abbrev sFloor : Stmt := top 20
abbrev sTable : Stmt := top 21
abbrev sWantLen : Stmt := top 22
abbrev sInit : Stmt := inClass (top 23) 1
abbrev sLength : Stmt := inClass (top 23) 3
abbrev sDays : Stmt := inClass (top 23) 4
abbrev sOn : Stmt := inClass (top 23) 6
abbrev sServed : Stmt := inClass (top 23) 7
abbrev sEq : Stmt := inClass (top 23) 25
abbrev sCommon : Stmt := top 26
abbrev sGaps : Stmt := top 27
abbrev sFirst : Stmt := top 28
abbrev sIsRows : Stmt := top 29
abbrev sBrought : Stmt := top 30
abbrev sWanted : Stmt := top 31
abbrev sEarliest : Stmt := top 32
abbrev sLatest : Stmt := top 33
abbrev sPot : Stmt := top 35
abbrev sDraw : Stmt := top 36
abbrev sPick : Stmt := top 37
abbrev sLawDays : Stmt := top 38
abbrev sLawOn : Stmt := top 39
abbrev sEarly : Stmt := top 42
abbrev sLate : Stmt := top 43
abbrev sKept : Stmt := top 44
abbrev sTold : Stmt := top 45
abbrev sDue : Stmt := top 46
abbrev sPair : Stmt := top 47
abbrev sRead : Stmt := top 48
abbrev sBetween : Stmt := top 49
abbrev sHidden : Stmt := top 50
abbrev sEnds : Stmt := top 51
abbrev sRight : Stmt := top 52
abbrev sLaw : Stmt := top 53

/-! ### a Table as it stands -/
theorem kd : ¬ (("own_days" : Str) = "own_length") := by decide +kernel
def flds (l : Addr) (n : Int) : List (Str × V) := putF "own_length" (.int n) (putF "own_days" (.ref l) [])
theorem flds_eq (l : Addr) (n : Int) : flds l n = ([("own_days", V.ref l), ("own_length", V.int n)] : List (Str × V)) := by
  show (if ("own_days" : Str) = "own_length" then [(("own_days" : Str), V.int n)] else (("own_days" : Str), V.ref l) :: putF "own_length" (V.int n) []) = _
  rw [if_neg kd]
  all_goals rfl
theorem flds_days (l : Addr) (n : Int) : (flds l n).lookup ("own_days" : Str) = some (.ref l) := by
  unfold flds
  rw [lookup_putF, if_neg kd, lookup_putF, if_pos rfl]
theorem flds_len (l : Addr) (n : Int) : (flds l n).lookup ("own_length" : Str) = some (.int n) := by
  unfold flds
  rw [lookup_putF, if_pos rfl]
theorem flds_no (l : Addr) (n : Int) {m : Str} (h1 : ¬ m = "own_length") (h2 : ¬ m = "own_days") : (flds l n).lookup m = none := by
  unfold flds
  rw [lookup_putF, if_neg h1, lookup_putF, if_neg h2]
  all_goals rfl
abbrev vi (l : List Int) : List V := l.map V.int
/-- a Table stands at p: its list at l, which nobody writes -/
structure TabAt (C : Addr) (H : Hp) (p : Addr) (days : List Int) : Prop where
  at_ : ∃ dx l, H p = some (.ins C dx (flds l days.length)) ∧ H l = some (.lst (vi days))
  tab : IsTab days
theorem TabAt.same {C p : Addr} {H H' : Hp} {days : List Int} (t : TabAt C H p days) (s : Same H H') : TabAt C H' p days := by
  obtain ⟨⟨dx, l, h1, h2⟩, h3⟩ := t
  exact ⟨⟨dx, l, s _ _ h1, s _ _ h2⟩, h3⟩
/-- rows at an address: a list or a tuple of tuples -/
def sq (b : Bool) (vs : List V) : HO := if b = true then .lst vs else .tup vs
structure RowsAt (H : Hp) (b : Bool) (a : Addr) (vs : List V) (rows : List Row) : Prop where
  at_ : H a = some (sq b vs)
  rows : RowsV H vs rows
theorem RowsAt.same {H H' : Hp} {b : Bool} {a : Addr} {vs : List V} {rows : List Row} (r : RowsAt H b a vs rows) (s : Same H H') : RowsAt H' b a vs rows := ⟨s _ _ r.at_, r.rows.same s⟩
/-- what the walk asks of the module -/
structure Txt (K : PySem.W.Frag) (mg : Str → Option Value) (C : Addr) : Prop where
  cl : Cls K C
  nD : NoAttr K C "own_days"
  nL : NoAttr K C "own_length"
  mgC : mg "Table" = some (.ref C)
  most : ∃ t, mg "MOST" = some (.int 600 t)
  mostR : ∃ t, mg "MOST_ROWS" = some (.int 60 t)
  lcm : mg "lcm" = some (.builtin "math.lcm")
  isi : mg "isinstance" = none
  len : mg "len" = none
  all : mg "all" = none
  range : mg "range" = none
  list : mg "list" = none
  sorted : mg "sorted" = none
  enum : mg "enumerate" = none
  max : mg "max" = none
  min : mg "min" = none
  abs : mg "abs" = none
  int : mg "int" = none
  divmod : mg "divmod" = none
  repr : mg "repr" = none
  tuple : mg "tuple" = none
  bool : mg "bool" = none
  tyC : PySem.W.kitOne K (.ref C) (.ref C) = some true
  ha : PySem.W.findIn K (.ref C) "__class__" = some (some (.builtin "object.__class__"))
  hn : PySem.W.specialIn K (.builtin "object.__class__") "__get__" = some (some (.builtin "getset_descriptor.__get__"))
  ht : PySem.W.takesIn K (.builtin "object.__class__") = some true
  hm : PySem.W.mroIn K C (.type "object") = some true
  ne : PySem.W.findIn K (.ref C) "__ne__" = some (some (.builtin "object.__ne__"))
theorem TabAt.ty {K : PySem.W.Frag} {mg : Str → Option Value} {C p : Addr} {H : Hp} {days : List Int} (T : Txt K mg C) (t : TabAt C H p days) : TyX K H (.ref p) (.ref C) := by
  obtain ⟨⟨dx, l, h1, _⟩, _⟩ := t
  exact .base (.ins h1 T.cl T.ha T.hn T.ht T.hm)

theorem bl_t {p : Prop} {d : Decidable p} {R : VK} {H : Hp} (h : p) (q : R (.bl true) H) : R (.bl (decide p)) H := by
  rw [decide_eq_true h]
  exact q
theorem bl_f {p : Prop} {d : Decidable p} {R : VK} {H : Hp} (h : ¬ p) (q : R (.bl false) H) : R (.bl (decide p)) H := by
  rw [decide_eq_false h]
  exact q
theorem if_t {p A B : Prop} {d : Decidable p} (h : p) (q : A) : if decide p = true then A else B := by
  rw [decide_eq_true h]
  exact iteT q
theorem if_f {p A B : Prop} {d : Decidable p} (h : ¬ p) (q : B) : if decide p = true then A else B := by
  rw [decide_eq_false h]
  exact iteF q
theorem ifn_t {p A B : Prop} {d : Decidable p} (h : p) (q : B) : if (!decide p) = true then A else B := by
  rw [decide_eq_true h]
  exact iteF q
theorem ifn_f {p A B : Prop} {d : Decidable p} (h : ¬ p) (q : A) : if (!decide p) = true then A else B := by
  rw [decide_eq_false h]
  exact iteT q
/-! ### comprehensions whose items are reckoned -/
theorem wipe1 (σ : L2.St) (j : Nat) (x : Option V) : wipe ((wipe σ [j]).set j x) [j] = wipe σ [j] := by
  show ((σ.set j none).set j x).set j none = σ.set j none
  rw [List.set_set, List.set_set]
theorem range_snoc {α : Type} (f : Nat → α) (i : Nat) : (List.range i).map f ++ [f i] = (List.range (i + 1)).map f := by
  rw [List.range_succ, List.map_append]
  rfl
/-- what a comprehension asks once its new list stands at D -/
abbrev LcGoal (J : It) (g : TG) (tt : TT) (te : TE) (vs : List Nat) (σ : L2.St) (H1 : Hp) (D : Addr) (Qd : Hp → Prop) : Prop :=
  ∃ W : Nat → Nat → Hp → Prop, (∃ m, W 0 m (upd H1 D (.lst []))) ∧ ∀ i m H, W i m H → (J.stop i H ∧ Qd H) ∨
    (J.go i H ∧ ∃ Nx : Hp → Prop, (∀ H', Nx H' → ∃ m', m' < m ∧ W (i + 1) m' H') ∧ ∀ x H', J.yld i H x H' → g x (wipe σ vs) H' fun σ2 H2 => wipe σ2 vs = wipe σ vs ∧ tt σ2 H2 fun b H3 =>
      if b = true then te σ2 H3 fun y H4 => ∃ acc, H4 D = some (.lst acc) ∧ acc.length < sizeLine ∧ Nx (upd H4 D (.lst (acc ++ [y]))) else Nx H3)
theorem comp_rng {te : TE} {σ : L2.St} {H1 : Hp} {j n : Nat} {D : Addr} {Qd : Hp → Prop} (hD : H1 D = none) (f : Nat → V) (hn : n ≤ 1000)
    (step : ∀ (i : Nat) (H : Hp), i < n → Same H1 H → ∀ R : VK, (∀ H', Same H H' → R (f i) H') → te ((wipe σ [j]).set j (some (.int (0 + i)))) H R)
    (done : ∀ H' : Hp, Same H1 H' → H' D = some (.lst ((List.range n).map f)) → Qd H') : LcGoal (Itr 0 n) (gName j) tYes te [j] σ H1 D Qd := by
  refine lc_range (lo := 0) (n := n) (fun i H => Same H1 H ∧ H D = some (.lst ((List.range i).map f))) ⟨same_new hD, upd_same⟩ (fun i H hi hP => ?_) fun H hP => done H hP.1 hP.2
  refine ⟨wipe1 σ j _, ?_⟩
  unfold tYes
  refine iteT ?_
  refine step i H hi hP.1 _ fun H' s' => ⟨_, s' _ _ hP.2, ?_, same_off (hP.1.trans s') hD, ?_⟩
  · rw [List.length_map, List.length_range]
    exact small1000 (by omega)
  · rw [upd_same, range_snoc]
theorem comp_lst {K : PySem.W.Frag} {te : TE} {σ : L2.St} {H1 : Hp} {a : Addr} {xs : List V} {j : Nat} {D : Addr} {Qd : Hp → Prop} (hD : H1 D = none) (f : Nat → V) (hn : xs.length ≤ 1000) (ha : H1 a = some (.lst xs))
    (step : ∀ (i : Nat) (x : V) (H : Hp), xs[i]? = some x → Same H1 H → ∀ R : VK, (∀ H', Same H H' → R (f i) H') → te ((wipe σ [j]).set j (some x)) H R)
    (done : ∀ H' : Hp, Same H1 H' → H' D = some (.lst ((List.range xs.length).map f)) → Qd H') : LcGoal (Itl K a) (gName j) tYes te [j] σ H1 D Qd := by
  refine lc_list (K := K) (a := a) (xs := xs) (fun i H => i ≤ xs.length ∧ Same H1 H ∧ H D = some (.lst ((List.range i).map f))) ⟨Nat.zero_le _, same_new hD, upd_same⟩ (fun i H _ hP => .inl (.inl (hP.2.1 _ _ ha))) (fun i x H hi hP => ?_) fun H hP => done H hP.2.1 hP.2.2
  have hil : i < xs.length := (List.getElem?_eq_some_iff.mp hi).1
  refine ⟨wipe1 σ j _, ?_⟩
  unfold tYes
  refine iteT ?_
  refine step i x H hi hP.2.1 _ fun H' s' => ⟨_, s' _ _ hP.2.2, ?_, hil, same_off (hP.2.1.trans s') hD, ?_⟩
  · rw [List.length_map, List.length_range]
    exact small1000 (by omega)
  · rw [upd_same, range_snoc]
end K16
set_option maxRecDepth 100000
set_option maxHeartbeats 4000000
/-! The small defs. -/
namespace K16
open PySem PySem.Spec PyProof.Rows L2
section
variable {P : Program} {w : World} {K : PySem.W.Frag} {mg : Str → Option Value} {base : Heap} {C f : Addr} {fd : FuncData}
/-! ### is_integer, is_day, is_count, is_list -/
def spInt : Sp := fun vs H Q _ => ∃ i : Int, vs = [.int i] ∧ Q (.bl true) H
theorem scInteger : FnScope ["value"] ["value"] (defScope sInteger) := ⟨rfl, rfl, rfl, by decide +kernel, rfl, by decide +kernel, by decide +kernel⟩
theorem ok_integer (F : Fun K "is_integer" "is_integer" sInteger f fd) (T : Txt K mg C) : FnOk P w K mg base CX0 1 f fd ["value"] spInt := by
  refine F.ok scInteger (fun vs H Q E h => ?_) (fun cdv A outer s H vs Q E hr h => ?_)
  · obtain ⟨i, rfl, _⟩ := h
    rfl
  · obtain ⟨i, rfl, k⟩ := h
    refine ⟨_, pss_one (ps_ret (pe_and (pe_callB call_isi (by rfl) T.isi boot_isinstance (pa_cons (pv 0) (pa_cons (pe_bltn (v := .ty "int") (by rfl) T.int boot_int rfl) pa_nil)))
      (pe_one (pe_not (pe_callB call_isi (by rfl) T.isi boot_isinstance (pa_cons (pv 0) (pa_cons (pe_bltn (v := .ty "bool") (by rfl) T.bool boot_bool rfl) pa_nil))))))), ?_⟩
    refine ⟨_, rfl, .int i, .ty "int", .type "int", .type "int", true, rfl, .ty "int", .base (.int i), kit_ty (by decide +kernel), true, rfl, ?_⟩
    refine iteT ?_
    exact ⟨_, rfl, .int i, .ty "bool", .type "int", .type "bool", false, rfl, .ty "bool", .base (.int i), kit_ty (by decide +kernel), false, rfl, k⟩
theorem scDay : FnScope ["value"] ["value"] (defScope sDay) := ⟨rfl, rfl, rfl, by decide +kernel, rfl, by decide +kernel, by decide +kernel⟩
theorem ok_day {f1 : Addr} {fd1 : FuncData} (F : Fun K "is_day" "is_day" sDay f fd) (F1 : Fun K "is_integer" "is_integer" sInteger f1 fd1) (b1 : Binds K fd1 ["value"] []) (m1 : mg "is_integer" = some (.ref f1)) (T : Txt K mg C) : FnOk P w K mg base CX0 2 f fd ["value"] spInt := by
  have G1 : FnOk P w K mg base CX0 1 f1 fd1 ["value"] spInt := ok_integer F1 T
  refine F.ok scDay (fun vs H Q E h => ?_) (fun cdv A outer s H vs Q E hr h => ?_)
  · obtain ⟨i, rfl, _⟩ := h
    rfl
  · obtain ⟨i, rfl, k⟩ := h
    exact ⟨_, pss_one (ps_ret (pe_call G1 hr (by rfl) m1 F1.kp b1 .nil pass0 (pa_cons (pv 0) pa_nil))), _, rfl, i, rfl, k⟩
def spCount : Sp := fun vs H Q _ => ∃ i : Int, vs = [.int i] ∧ 0 ≤ i ∧ Q (.bl true) H
theorem scCount : FnScope ["value"] ["value"] (defScope sCount) := ⟨rfl, rfl, rfl, by decide +kernel, rfl, by decide +kernel, by decide +kernel⟩
theorem ok_count {f1 : Addr} {fd1 : FuncData} (F : Fun K "is_count" "is_count" sCount f fd) (F1 : Fun K "is_integer" "is_integer" sInteger f1 fd1) (b1 : Binds K fd1 ["value"] []) (m1 : mg "is_integer" = some (.ref f1)) (T : Txt K mg C) : FnOk P w K mg base CX0 2 f fd ["value"] spCount := by
  have G1 : FnOk P w K mg base CX0 1 f1 fd1 ["value"] spInt := ok_integer F1 T
  refine F.ok scCount (fun vs H Q E h => ?_) (fun cdv A outer s H vs Q E hr h => ?_)
  · obtain ⟨i, rfl, _⟩ := h
    rfl
  · obtain ⟨i, rfl, hi, k⟩ := h
    refine ⟨_, pss_one (ps_ret (pe_and (pe_call G1 hr (by rfl) m1 F1.kp b1 .nil pass0 (pa_cons (pv 0) pa_nil)) (pe_one (pe_cmp (pc_ge (pv 0) pe_int))))), ?_⟩
    refine ⟨_, rfl, i, rfl, true, rfl, iteT ?_⟩
    refine ⟨_, rfl, _, _, rfl, rfl, ?_⟩
    show Q (.bl (decide (0 ≤ i))) _
    rw [decide_eq_true hi]
    exact k
def spSeq : Sp := fun vs H Q _ => ∃ (a : Addr) (b : Bool) (xs : List V), vs = [.ref a] ∧ H a = some (sq b xs) ∧ ∀ H', Same H H' → Q (.bl true) H'
theorem scList : FnScope ["value"] ["value"] (defScope sList) := ⟨rfl, rfl, rfl, by decide +kernel, rfl, by decide +kernel, by decide +kernel⟩
theorem ok_list (F : Fun K "is_list" "is_list" sList f fd) (T : Txt K mg C) : FnOk P w K mg base CX0 1 f fd ["value"] spSeq := by
  refine F.ok scList (fun vs H Q E h => ?_) (fun cdv A outer s H vs Q E hr h => ?_)
  · obtain ⟨a, b, xs, rfl, _⟩ := h
    rfl
  · obtain ⟨a, b, xs, rfl, ha, k⟩ := h
    refine ⟨_, pss_one (ps_ret (pe_callB call_isiT (by rfl) T.isi boot_isinstance (pa_cons (pv 0) (pa_cons (pe_tup (pa_cons (pe_bltn (v := .ty "list") (by rfl) T.list boot_list rfl) (pa_cons (pe_bltn (v := .ty "tuple") (by rfl) T.tuple boot_tuple rfl) pa_nil))) pa_nil)))), ?_⟩
    refine ⟨_, rfl, (by show 2 ≤ sizeLine; decide), fun t ht => ?_⟩
    have s1 := same_new (o := .tup [.ty "list", .ty "tuple"]) ht
    have ha' := s1 _ _ ha
    cases b with
    | true =>
      exact ⟨.ref a, t, _, .type "list", [.type "list", .type "tuple"], true, rfl, upd_same, .cons (.ty "list") (.cons (.ty "tuple") .nil), .base (.lst ha'),
        kitAny_cons (kit_ty (by decide +kernel : kitB "list" "list" = some true)) (fun z => nomatch z) (fun _ => rfl), k _ s1⟩
    | false =>
      exact ⟨.ref a, t, _, .type "tuple", [.type "list", .type "tuple"], true, rfl, upd_same, .cons (.ty "list") (.cons (.ty "tuple") .nil), .base (.tup ha'),
        kitAny_cons (kit_ty (by decide +kernel : kitB "tuple" "list" = some false)) (fun _ => kitAny_cons (kit_ty (by decide +kernel : kitB "tuple" "tuple" = some true)) (fun z => nomatch z) (fun _ => rfl)) (fun _ => rfl), k _ s1⟩
/-! ### want_day, want_count, want_length, want_at_most, floor_part -/
def spWantInt : Sp := fun vs H Q _ => ∃ i : Int, vs = [.int i] ∧ Q .non H
theorem scWantDay : FnScope ["value"] ["value"] (defScope sWantDay) := ⟨rfl, rfl, rfl, by decide +kernel, rfl, by decide +kernel, by decide +kernel⟩
theorem ok_wantDay {f1 : Addr} {fd1 : FuncData} (F : Fun K "want_day" "want_day" sWantDay f fd) (G1 : FnOk P w K mg base CX0 2 f1 fd1 ["value"] spInt) (k1 : PySem.W.keepIn K (.ref f1) = true) (b1 : Binds K fd1 ["value"] []) (m1 : mg "is_day" = some (.ref f1)) (T : Txt K mg C) : FnOk P w K mg base CX0 3 f fd ["value"] spWantInt := by
  refine F.ok scWantDay (fun vs H Q E h => ?_) (fun cdv A outer s H vs Q E hr h => ?_)
  · obtain ⟨i, rfl, _⟩ := h
    rfl
  · obtain ⟨i, rfl, k⟩ := h
    refine ⟨_, pss_one (ps_if (pt_not (pt_val (pe_call G1 hr (by rfl) m1 k1 b1 .nil pass0 (pa_cons (pv 0) pa_nil)))) (pss_one ps_never) pss_nil), ?_⟩
    refine ⟨_, rfl, i, rfl, true, rfl, iteF ?_⟩
    exact k
def spWantCount : Sp := fun vs H Q _ => ∃ i : Int, vs = [.int i] ∧ 0 ≤ i ∧ Q .non H
theorem scWantCount : FnScope ["value"] ["value"] (defScope sWantCount) := ⟨rfl, rfl, rfl, by decide +kernel, rfl, by decide +kernel, by decide +kernel⟩
theorem ok_wantCount {f1 : Addr} {fd1 : FuncData} (F : Fun K "want_count" "want_count" sWantCount f fd) (G1 : FnOk P w K mg base CX0 2 f1 fd1 ["value"] spCount) (k1 : PySem.W.keepIn K (.ref f1) = true) (b1 : Binds K fd1 ["value"] []) (m1 : mg "is_count" = some (.ref f1)) (T : Txt K mg C) : FnOk P w K mg base CX0 3 f fd ["value"] spWantCount := by
  refine F.ok scWantCount (fun vs H Q E h => ?_) (fun cdv A outer s H vs Q E hr h => ?_)
  · obtain ⟨i, rfl, _⟩ := h
    rfl
  · obtain ⟨i, rfl, hi, k⟩ := h
    refine ⟨_, pss_one (ps_if (pt_not (pt_val (pe_call G1 hr (by rfl) m1 k1 b1 .nil pass0 (pa_cons (pv 0) pa_nil)))) (pss_one ps_never) pss_nil), ?_⟩
    refine ⟨_, rfl, i, rfl, hi, true, rfl, iteF ?_⟩
    exact k
def spWantLen : Sp := fun vs H Q _ => ∃ i : Int, vs = [.int i] ∧ 0 < i ∧ Q .non H
theorem scWantLen : FnScope ["count"] ["count"] (defScope sWantLen) := ⟨rfl, rfl, rfl, by decide +kernel, rfl, by decide +kernel, by decide +kernel⟩
theorem ok_wantLen {f1 : Addr} {fd1 : FuncData} (F : Fun K "want_length" "want_length" sWantLen f fd) (G1 : FnOk P w K mg base CX0 3 f1 fd1 ["value"] spWantCount) (k1 : PySem.W.keepIn K (.ref f1) = true) (b1 : Binds K fd1 ["value"] []) (m1 : mg "want_count" = some (.ref f1)) (T : Txt K mg C) : FnOk P w K mg base CX0 4 f fd ["count"] spWantLen := by
  refine F.ok scWantLen (fun vs H Q E h => ?_) (fun cdv A outer s H vs Q E hr h => ?_)
  · obtain ⟨i, rfl, _⟩ := h
    rfl
  · obtain ⟨i, rfl, hi, k⟩ := h
    refine ⟨_, pss_cons (ps_expr (pe_call G1 hr (by rfl) m1 k1 b1 .nil pass0 (pa_cons (pv 0) pa_nil))) (pss_one (ps_if (pt_cmpR op_eq (pv 0) pe_int (nomark _)) (pss_one ps_never) pss_nil)), ?_⟩
    refine ⟨_, rfl, i, rfl, by omega, ?_⟩
    refine ⟨_, rfl, rfl, _, rfl, ?_⟩
    rw [decide_eq_false (fun z => by have := V.int.inj z; omega)]
    refine iteF ?_
    exact k
def spMost : Sp := fun vs H Q _ => ∃ (z : Str) (l n : Int), vs = [.str z, .int l, .int n] ∧ n ≤ l ∧ Q .non H
theorem scMost : FnScope ["what", "limit", "number"] ["what", "limit", "number"] (defScope sWantMost) := ⟨rfl, rfl, rfl, by decide +kernel, rfl, by decide +kernel, by decide +kernel⟩
theorem ok_most (F : Fun K "want_at_most" "want_at_most" sWantMost f fd) : FnOk P w K mg base CX0 1 f fd ["what", "limit", "number"] spMost := by
  refine F.ok scMost (fun vs H Q E h => ?_) (fun cdv A outer s H vs Q E hr h => ?_)
  · obtain ⟨z, l, n, rfl, _⟩ := h
    rfl
  · obtain ⟨z, l, n, rfl, hn, k⟩ := h
    refine ⟨_, pss_one (ps_if (pt_cmpR op_gt (pv 2) (pv 1) (nomark _)) (pss_one ps_never) pss_nil), ?_⟩
    refine ⟨_, rfl, _, rfl, _, _, rfl, rfl, _, rfl, ?_⟩
    rw [decide_eq_false (by omega)]
    refine iteF ?_
    exact k
def spFloor : Sp := fun vs H Q _ => ∃ d n : Int, vs = [.int d, .int n] ∧ 0 < n ∧ n < 1073741824 ∧ Q (.int (d / n * n)) H
theorem scFloor : FnScope ["day", "length"] ["day", "length"] (defScope sFloor) := ⟨rfl, rfl, rfl, by decide +kernel, rfl, by decide +kernel, by decide +kernel⟩
theorem ok_floor (F : Fun K "floor_part" "floor_part" sFloor f fd) : FnOk P w K mg base CX0 1 f fd ["day", "length"] spFloor := by
  refine F.ok scFloor (fun vs H Q E h => ?_) (fun cdv A outer s H vs Q E hr h => ?_)
  · obtain ⟨d, n, rfl, _⟩ := h
    rfl
  · obtain ⟨d, n, rfl, h0, h1, k⟩ := h
    refine ⟨_, pss_one (ps_ret (pe_op op_mul (pe_op op_fdiv (pv 0) (pv 1)) (pv 1))), ?_⟩
    exact ⟨_, rfl, _, rfl, _, _, rfl, rfl, ⟨h0, h1⟩, _, rfl, _, _, rfl, rfl, .inr ⟨by omega, by omega⟩, k⟩
end
end K16
set_option maxRecDepth 100000
set_option maxHeartbeats 4000000
/-! What stands in lists, as data: for == and repr. -/
namespace K16
open PySem PySem.Spec PyProof.Rows L2
def dInts (l : List Int) : PyData := .list (l.map PyData.int)
def dRow (r : Row) : PyData := .tuple [.int r.1, .int r.2]
def dRows (l : List Row) : PyData := .list (l.map dRow)
theorem dpAll_ints {K : PySem.W.Frag} {H : Hp} : ∀ l : List Int, DpAll K H (vi l) (l.map PyData.int)
  | [] => .nil
  | x :: r => .cons (.int x) (dpAll_ints r)
theorem dp_ints {K : PySem.W.Frag} {H : Hp} {a : Addr} {l : List Int} (h : H a = some (.lst (vi l))) : Dp K H (.ref a) (dInts l) := .lst (SqL.of h) (dpAll_ints l)
theorem dpAll_rows {K : PySem.W.Frag} {H : Hp} : ∀ (vs : List V) (rows : List Row), RowsV H vs rows → DpAll K H vs (rows.map dRow)
  | [], [], _ => .nil
  | [], _ :: _, h => by have := h.len; simp at this
  | _ :: _, [], h => by have := h.len; simp at this
  | v :: vs, r :: rows, h => by
    obtain ⟨t, e, ht⟩ := h.at_ 0 r rfl
    have ev : v = .ref t := by simpa using e
    subst ev
    refine .cons (.tup (SqT.of ht) (.cons (.int _) (.cons (.int _) .nil))) (dpAll_rows vs rows ⟨by have := h.len; simp at this; exact this, fun i q e => ?_⟩)
    obtain ⟨t, h1, h2⟩ := h.at_ (i + 1) q (by simpa using e)
    exact ⟨t, by simpa using h1, h2⟩
theorem lay_ints : ∀ l : List Int, PyData.canLayAll0 (l.map PyData.int) = true
  | [] => by simp [PyData.canLayAll0]
  | x :: r => by simp [PyData.canLayAll0, PyData.canLay0, lay_ints r]
theorem lay_rows : ∀ l : List Row, PyData.canLayAll0 (l.map dRow) = true
  | [] => by simp [PyData.canLayAll0]
  | x :: r => by simp [PyData.canLayAll0, PyData.canLay0, dRow, lay_rows r]
theorem depth_ints : ∀ l : List Int, PyData.depthAll (l.map PyData.int) = 0
  | [] => by simp [PyData.depthAll]
  | x :: r => by simp [PyData.depthAll, PyData.depth, depth_ints r]
theorem depth_rows : ∀ l : List Row, PyData.depthAll (l.map dRow) ≤ 1
  | [] => by simp [PyData.depthAll]
  | x :: r => by
    have := depth_rows r
    have e : PyData.depth (dRow x) = 1 := by simp [PyData.depthAll, PyData.depth, dRow]
    simp only [List.map_cons, PyData.depthAll, e]
    omega
theorem shaped_ints (l : List Int) : SeqAt.shaped (dInts l) = true := by
  have a : PyData.canLay0 (dInts l) = true := by
    unfold dInts
    rw [PyData.canLay0]
    exact lay_ints l
  have b : PyData.depth (dInts l) = 1 := by
    unfold dInts
    rw [PyData.depth, depth_ints]
  unfold SeqAt.shaped
  rw [a, b]
  rfl
theorem shaped_rows (l : List Row) : SeqAt.shaped (dRows l) = true := by
  have a : PyData.canLay0 (dRows l) = true := by
    unfold dRows
    rw [PyData.canLay0]
    exact lay_rows l
  have b : PyData.depth (dRows l) ≤ 2 := by
    unfold dRows
    rw [PyData.depth]
    have := depth_rows l
    omega
  unfold SeqAt.shaped
  rw [a, decide_eq_true (show PyData.depth (dRows l) ≤ 64 by omega)]
  rfl
/-- what is told, what is due: no rule; or the earliest and the latest one's days -/
def dTold : Option (List Int × List Int) → PyData
  | none => .list [.none, .none]
  | some (e, l) => .list [.list [dInts e, .bool true], .list [dInts l, .bool true]]
def Small (l : List Int) : Prop := ∀ x, x ∈ l → -1000000000000 < x ∧ x < 1000000000000
theorem small_weight : ∀ l : List Int, Small l → PyData.weightAll (l.map PyData.int) ≤ 42 * l.length
  | [], _ => by simp [PyData.weightAll]
  | x :: r, h => by
    have ih := small_weight r fun y hy => h y (List.mem_cons_of_mem _ hy)
    obtain ⟨h1, h2⟩ := h x List.mem_cons_self
    have e : PyData.weight (.int x) ≤ 41 := by
      rw [PyData.weight]
      split
      · omega
      · have : x.natAbs.log2 ≤ 40 := by
          by_cases z : x.natAbs = 0
          · rw [z]
            decide
          · have : x.natAbs.log2 < 41 := (Nat.log2_lt z).mpr (by omega)
            omega
        omega
    simp only [List.map_cons, PyData.weightAll, List.length_cons]
    omega
theorem small_leaves : ∀ l : List Int, Small l → PyData.leavesShortAll 13 (l.map PyData.int) = true
  | [], _ => by simp [PyData.leavesShortAll]
  | x :: r, h => by
    have ih := small_leaves r fun y hy => h y (List.mem_cons_of_mem _ hy)
    obtain ⟨h1, h2⟩ := h x List.mem_cons_self
    have e := PyData.shown_int_le (i := x) (by omega)
    simp only [List.map_cons, PyData.leavesShortAll, PyData.leavesShort, Bool.and_eq_true, decide_eq_true_eq]
    exact ⟨e, ih⟩
theorem small_showable : ∀ l : List Int, Small l → PyData.showableAll (l.map PyData.int) = true
  | [], _ => by simp [PyData.showableAll]
  | x :: r, h => by
    have ih := small_showable r fun y hy => h y (List.mem_cons_of_mem _ hy)
    obtain ⟨h1, h2⟩ := h x List.mem_cons_self
    have e : x.natAbs.log2 < 1920 := by
      by_cases z : x.natAbs = 0
      · rw [z]
        decide
      · have : x.natAbs.log2 < 41 := (Nat.log2_lt z).mpr (by omega)
        omega
    simp only [List.map_cons, PyData.showableAll, PyData.showable, Bool.and_eq_true, decide_eq_true_eq]
    exact ⟨e, ih⟩
theorem ints_noDict : ∀ l : List Int, PyData.hasDictAll (l.map PyData.int) = false
  | [] => by simp [PyData.hasDictAll]
  | x :: r => by simp [PyData.hasDictAll, PyData.hasDict, ints_noDict r]
structure Told (o : Option (List Int × List Int)) : Prop where
  ok : ∀ e l, o = some (e, l) → Small e ∧ Small l ∧ e.length ≤ 600 ∧ l.length ≤ 600
theorem Told.fits {o : Option (List Int × List Int)} (h : Told o) : (dTold o).showable = true ∧ (dTold o).hasDict = false ∧ (dTold o).depth ≤ 8 ∧ (dTold o).shown.length ≤ sizeLine := by
  cases o with
  | none =>
    refine ⟨by simp [dTold, PyData.showable, PyData.showableAll], by simp [dTold, PyData.hasDict, PyData.hasDictAll], by simp [dTold, PyData.depth, PyData.depthAll], ?_⟩
    refine PyData.shown_fits (B := 13) (by decide) (by decide) ?_ ?_
    · simp [dTold, PyData.leavesShort, PyData.leavesShortAll]
    · simp [dTold, PyData.weight, PyData.weightAll]
  | some p =>
    obtain ⟨e, l⟩ := p
    obtain ⟨h1, h2, h3, h4⟩ := h.ok e l rfl
    refine ⟨by simp [dTold, dInts, PyData.showable, PyData.showableAll, small_showable e h1, small_showable l h2], by simp [dTold, dInts, PyData.hasDict, PyData.hasDictAll, ints_noDict], by simp [dTold, dInts, PyData.depth, PyData.depthAll, depth_ints], ?_⟩
    refine PyData.shown_fits (B := 13) (by decide) (by decide) ?_ ?_
    · simp [dTold, dInts, PyData.leavesShort, PyData.leavesShortAll, small_leaves e h1, small_leaves l h2]
    · have a := small_weight e h1
      have b := small_weight l h2
      simp only [dTold, dInts, PyData.weight, PyData.weightAll]
      omega
end K16
set_option maxRecDepth 100000
set_option maxHeartbeats 4000000
/-! is_table, Table. -/
namespace K16
open PySem PySem.Spec PyProof.Rows L2
theorem vi_get {l : List Int} {i : Nat} {x : V} (h : (vi l)[i]? = some x) : ∃ z, l[i]? = some z ∧ x = .int z := by
  rw [List.getElem?_map] at h
  cases e : l[i]? with
  | none =>
    rw [e] at h
    cases h
  | some z =>
    rw [e] at h
    exact ⟨z, rfl, (Option.some.inj h).symm⟩
theorem vi_at {l : List Int} {i : Nat} (h : i < l.length) : (vi l)[i]? = some (.int (l.getD i 0)) := by
  rw [List.getElem?_map, List.getD_eq_getElem?_getD, List.getElem?_eq_getElem h]
  rfl
theorem vi_atI {l : List Int} {z : Int} {i : Nat} (e : z = (i : Int)) (h : i < l.length) : atI (vi l) z = some (.int (l.getD i 0)) := at_of e (vi_at h)
theorem atI_neg {xs : List V} {v : V} (h0 : 0 < xs.length) (h : xs[xs.length - 1]? = some v) : atI xs (-1) = some v := by
  unfold atI ixN
  rw [if_neg (by omega), if_pos (by omega)]
  show xs[(-1 + (xs.length : Int)).toNat]? = some v
  rw [show (-1 + (xs.length : Int)).toNat = xs.length - 1 by omega]
  exact h
theorem vi_last {l : List Int} (h : 0 < l.length) : atI (vi l) (-1) = some (.int (l.getD (l.length - 1) 0)) := by
  refine atI_neg (by rw [List.length_map]; exact h) ?_
  rw [List.length_map]
  exact vi_at (by omega)
theorem all_true (n : Nat) : ((List.range n).map fun _ => true).all id = true := by
  rw [List.all_map]
  refine List.all_eq_true.mpr fun x _ => rfl
section
variable {P : Program} {w : World} {K : PySem.W.Frag} {mg : Str → Option Value} {base : Heap} {C f : Addr} {fd : FuncData}
def spTable : Sp := fun vs H Q _ => ∃ (a : Addr) (days : List Int), vs = [.ref a] ∧ H a = some (.lst (vi days)) ∧ IsTab days ∧ ∀ H', Same H H' → Q (.bl true) H'
theorem scTable : FnScope ["value", "day", "place"] ["value"] (defScope sTable) := ⟨rfl, rfl, rfl, by decide +kernel, rfl, by decide +kernel, by decide +kernel⟩
theorem ok_table {fL fD : Addr} {dL dD : FuncData} (F : Fun K "is_table" "is_table" sTable f fd) (GL : FnOk P w K mg base CX0 1 fL dL ["value"] spSeq) (kL : PySem.W.keepIn K (.ref fL) = true) (bL : Binds K dL ["value"] []) (mL : mg "is_list" = some (.ref fL))
    (GD : FnOk P w K mg base CX0 2 fD dD ["value"] spInt) (kD : PySem.W.keepIn K (.ref fD) = true) (bD : Binds K dD ["value"] []) (mD : mg "is_day" = some (.ref fD)) (T : Txt K mg C) : FnOk P w K mg base CX0 3 f fd ["value"] spTable := by
  have nd := scTable.nd
  obtain ⟨tm, hmost⟩ := T.most
  refine F.ok scTable (fun vs H Q E h => ?_) (fun cdv A outer s H vs Q E hr h => ?_)
  · obtain ⟨a, days, rfl, _⟩ := h
    rfl
  · obtain ⟨a, days, rfl, ha, tab, k⟩ := h
    have hp := tab.pos
    have hm := tab.most
    have hr1 : Room 1 _ := hr.mono (by decide)
    refine ⟨_, pss_cons (ps_if (PW.pt (pw_or (pt_not (pt_val (pe_call GL hr1 (by rfl) mL kL bL .nil pass0 (pa_cons (pv 0) pa_nil))))
        (pw_or1 (pt_not (pt_chain op_le op_le pe_int (pe_callB call_len_seq (by rfl) T.len boot_len (pa_cons (pv 0) pa_nil)) (pe_glob (v := .int 600) (by rfl) hmost ⟨_, rfl⟩)))))) (pss_one (ps_ret pe_bl)) pss_nil)
      (pss_cons (ps_if (pt_not (pt_val (pe_callB (cr_all rfl) (by rfl) T.all boot_all (pa_cons (pe_lc (own := [("day", 1)]) (g := gName 1) (tt := tYes) rfl nd (pi_list (pv 0)) (blkOk_by (N := ["value", "day", "place"]) (sc := defScope sTable) (by decide +kernel))
          (fun _ _ _ _ _ => pg_name (i := 1) nd rfl (.inl rfl)) (fun _ _ _ _ _ => pts_nil) (fun _ _ _ _ _ => pe_call GD hr (by rfl) mD kD bD .nil pass0 (pa_cons (pv 1) pa_nil))) pa_nil)))) (pss_one (ps_ret pe_bl)) pss_nil)
      (pss_cons (ps_if (pt_not (pt_val (pe_callB (cr_all rfl) (by rfl) T.all boot_all (pa_cons (pe_lc (own := [("place", 2)]) (g := gName 2) (tt := tYes) rfl nd (pi_range1 (by rfl) T.range (pa_cons (pe_op op_sub (pe_callB call_len_seq (by rfl) T.len boot_len (pa_cons (pv 0) pa_nil)) pe_int) pa_nil)) (blkOk_by (N := ["value", "day", "place"]) (sc := defScope sTable) (by decide +kernel))
          (fun _ _ _ _ _ => pg_name (i := 2) nd rfl (.inl rfl)) (fun _ _ _ _ _ => pts_nil) (fun _ _ _ _ _ => pe_cmpR op_le (pe_ix (r := rIxL K) ix_list (pv 0) (pv 2) (fun _ _ => rfl)) (pe_ix (r := rIxL K) ix_list (pv 0) (pe_op op_add (pv 2) pe_int) (fun _ _ => rfl)) (nomark _))) pa_nil)))) (pss_one (ps_ret pe_bl)) pss_nil)
      (pss_one (ps_ret (pe_cmpR op_le (pe_ix ix_list (pv 0) (pe_un un_neg pe_int) (fun _ _ => rfl)) (pe_op op_add (pe_ix ix_list (pv 0) pe_int (fun _ _ => rfl)) (pe_callB call_len_seq (by rfl) T.len boot_len (pa_cons (pv 0) pa_nil))) (nomark _)))))), ?_⟩
    -- a list, of 1 to 600 items
    refine ⟨_, rfl, a, true, vi days, rfl, ha, fun H1 s1 => ⟨true, rfl, iteF ?_⟩⟩
    have h1 := s1 _ _ ha
    refine ⟨_, rfl, a, _, rfl, .inl (SqL.of h1), _, _, rfl, rfl, _, rfl, ?_⟩
    rw [decide_eq_true (show (1 : Int) ≤ ((vi days).length : Int) by rw [List.length_map]; omega)]
    refine iteT ?_
    refine ⟨_, _, rfl, rfl, _, rfl, ?_⟩
    rw [decide_eq_true (show ((vi days).length : Int) ≤ 600 by rw [List.length_map]; omega)]
    refine iteF ?_
    -- all of them days
    refine ⟨_, rfl, a, rfl, ⟨_, SqL.of h1⟩, fun D nD => ?_⟩
    refine comp_lst (xs := vi days) nD (fun _ => V.bl true) (by rw [List.length_map]; omega) h1 (fun i x H2 hi s2 R q => ?_) fun H2 s2 eD => ?_
    · obtain ⟨z, _, rfl⟩ := vi_get hi
      exact ⟨_, rfl, z, rfl, q _ (Same.refl _)⟩
    refine ⟨D, (List.range (vi days).length).map fun _ => true, rfl, SqL.of (by rw [eD, List.map_map]; rfl), true, ?_, iteF ?_⟩
    · rw [all_true]
    -- none ahead of the one before
    have h2 := s2 _ _ h1
    refine ⟨_, rfl, a, _, rfl, .inl (SqL.of h2), _, _, rfl, rfl, _, rfl, by rw [List.length_map]; omega, by rw [List.length_map]; omega, fun D' nD' => ?_⟩
    refine comp_rng nD' (fun _ => V.bl true) (by rw [List.length_map]; omega) (fun i H3 hi s3 R q => ?_) fun H3 s3 eD' => ?_
    · rw [List.length_map] at hi
      have h3 := s3 _ _ h2
      refine ⟨_, rfl, _, rfl, a, _, _, _, rfl, rfl, SqL.of h3, vi_atI (i := i) (by omega) (by omega), ?_⟩
      refine ⟨_, rfl, _, rfl, _, _, rfl, rfl, a, _, _, _, rfl, rfl, SqL.of h3, vi_atI (i := i + 1) (by omega) (by omega), ?_⟩
      refine ⟨_, _, rfl, rfl, ?_⟩
      exact bl_t (tab.up i (by omega)) (q _ (Same.refl _))
    refine ⟨D', (List.range (((vi days).length : Int) - 1).toNat).map fun _ => true, rfl, SqL.of (by rw [eD', List.map_map]; rfl), true, ?_, iteF ?_⟩
    · rw [all_true]
    -- the last one
    have h3 := s3 _ _ h2
    refine ⟨_, rfl, 1, rfl, a, _, _, _, rfl, rfl, SqL.of h3, vi_last hp, ?_⟩
    refine ⟨_, rfl, a, _, _, _, rfl, rfl, SqL.of h3, vi_atI (i := 0) rfl hp, _, rfl, a, _, rfl, .inl (SqL.of h3), _, _, rfl, rfl, _, _, rfl, rfl, ?_⟩
    refine bl_t (R := Q) ?_ (k _ ((s1.trans s2).trans s3))
    rw [List.length_map]
    exact tab.last
end
end K16
set_option maxRecDepth 100000
set_option maxHeartbeats 4000000
/-! Table: made, read, compared. -/
namespace K16
open PySem PySem.Spec PyProof.Rows L2
section
variable {P : Program} {w : World} {K : PySem.W.Frag} {mg : Str → Option Value} {base : Heap} {C f : Addr} {fd : FuncData}
def spInit (C : Addr) : Sp := fun vs H Q _ => ∃ (p dx a : Addr) (days : List Int), vs = [.ref p, .ref a] ∧ H p = some (.ins C dx []) ∧ H a = some (.lst (vi days)) ∧ IsTab days ∧
  ∀ H', TabAt C H' p days → (∀ p0 o, H p0 = some o → p0 ≠ p → TabAt C (cut p0 H') p days) → (∀ b o, H b = some o → b ≠ p → H' b = some o) → Q .non H'
theorem scInit : FnScope ["self", "days"] ["self", "days"] (defScope sInit) := ⟨rfl, rfl, rfl, by decide +kernel, rfl, by decide +kernel, by decide +kernel⟩
theorem ok_init {fT : Addr} {dT : FuncData} (F : Fun K "__init__" "Table.__init__" sInit f fd) (GT : FnOk P w K mg base CX0 3 fT dT ["value"] spTable) (kT : PySem.W.keepIn K (.ref fT) = true) (bT : Binds K dT ["value"] []) (mT : mg "is_table" = some (.ref fT))
    (T : Txt K mg C) : FnOk P w K mg base CX0 4 f fd ["self", "days"] (spInit C) := by
  have nd := scInit.nd
  refine F.ok scInit (fun vs H Q E h => ?_) (fun cdv A outer s H vs Q E hr h => ?_)
  · obtain ⟨p, dx, a, days, rfl, _⟩ := h
    rfl
  · obtain ⟨p, dx, a, days, rfl, hp, ha, tab, k⟩ := h
    refine ⟨_, pss_cons (ps_if (pt_not (pt_val (pe_call GT hr (by rfl) mT kT bT .nil pass0 (pa_cons (pv 1) pa_nil)))) (pss_one ps_never) pss_nil)
      (pss_cons (ps_fld (pv 0) (pe_callTy call_list_of (by rfl) T.list boot_list (pa_cons (pv 1) pa_nil)) rfl)
      (pss_one (ps_fld (pv 0) (pe_callB call_len_seq (by rfl) T.len boot_len (pa_cons (pe_fld (pv 0) rfl) pa_nil)) rfl))), ?_⟩
    refine ⟨_, rfl, a, days, rfl, ha, tab, fun H1 s1 => ⟨true, rfl, iteF ?_⟩⟩
    have h1 := s1 _ _ hp
    have a1 := s1 _ _ ha
    refine ⟨_, rfl, a, _, rfl, .inl (SqL.of a1), fun l nl => ?_⟩
    have npl : p ≠ l := ne_of_none h1 nl
    have s2 := same_new (o := .lst (vi days)) nl
    refine ⟨_, rfl, p, C, dx, [], rfl, s2 _ _ h1, T.cl, T.nD, (by show 0 < 1000; decide), ?_⟩
    refine ⟨_, rfl, p, C, dx, _, .ref l, rfl, upd_same, T.cl, T.nD, (by rw [lookup_putF, if_pos rfl]), l, vi days, rfl, .inl (SqL.of (by rw [upd_ne npl.symm]; exact upd_same)), ?_⟩
    refine ⟨_, rfl, p, C, dx, _, rfl, upd_same, T.cl, T.nL, (by show 1 < 1000; decide), ?_⟩
    refine k _ ⟨⟨dx, l, ?_, ?_⟩, tab⟩ (fun p0 o e0 np0 => ⟨⟨dx, l, ?_, ?_⟩, tab⟩) fun b o e nb => ?_
    · rw [upd_same, List.length_map]
      rfl
    · rw [upd_ne npl.symm, upd_ne npl.symm]
      exact upd_same
    · rw [cut_ne np0.symm, upd_same, List.length_map]
      rfl
    · rw [cut_ne (ne_of_none (s1 _ _ e0) nl).symm, upd_ne npl.symm, upd_ne npl.symm]
      exact upd_same
    · rw [upd_ne nb, upd_ne nb]
      exact s2 _ _ (s1 _ _ e)
/-- Table(days) -/
theorem tab_made {H H1 : Hp} {x dx : Addr} {days : List Int} (nx : H x = none) (nd : H dx = none) (k : ∀ b o, (upd (upd H dx (.own x)) x (.ins C dx [])) b = some o → b ≠ x → H1 b = some o) : Same H H1 := Same.made nx nd k
def spLength (C : Addr) : Sp := fun vs H Q _ => ∃ (p : Addr) (days : List Int), vs = [.ref p] ∧ TabAt C H p days ∧ Q (.int days.length) H
theorem scLength : FnScope ["self"] ["self"] (defScope sLength) := ⟨rfl, rfl, rfl, by decide +kernel, rfl, by decide +kernel, by decide +kernel⟩
theorem ok_length (F : Fun K "length" "Table.length" sLength f fd) (T : Txt K mg C) : FnOk P w K mg base CX0 1 f fd ["self"] (spLength C) := by
  refine F.ok scLength (fun vs H Q E h => ?_) (fun cdv A outer s H vs Q E hr h => ?_)
  · obtain ⟨p, days, rfl, _⟩ := h
    rfl
  · obtain ⟨p, days, rfl, t, k⟩ := h
    obtain ⟨⟨dx, l, h1, h2⟩, tab⟩ := t
    exact ⟨_, pss_one (ps_ret (pe_fld (pv 0) rfl)), _, rfl, p, C, dx, _, _, rfl, h1, T.cl, T.nL, flds_len _ _, k⟩
def spDays (C : Addr) : Sp := fun vs H Q _ => ∃ (p : Addr) (days : List Int), vs = [.ref p] ∧ TabAt C H p days ∧ ∀ (l : Addr) (H' : Hp), Same H H' → H l = none → H' l = some (.lst (vi days)) → Q (.ref l) H'
theorem scDays : FnScope ["self"] ["self"] (defScope sDays) := ⟨rfl, rfl, rfl, by decide +kernel, rfl, by decide +kernel, by decide +kernel⟩
theorem ok_days (F : Fun K "days" "Table.days" sDays f fd) (T : Txt K mg C) : FnOk P w K mg base CX0 1 f fd ["self"] (spDays C) := by
  refine F.ok scDays (fun vs H Q E h => ?_) (fun cdv A outer s H vs Q E hr h => ?_)
  · obtain ⟨p, days, rfl, _⟩ := h
    rfl
  · obtain ⟨p, days, rfl, t, k⟩ := h
    obtain ⟨⟨dx, l, h1, h2⟩, tab⟩ := t
    refine ⟨_, pss_one (ps_ret (pe_callTy call_list_of (by rfl) T.list boot_list (pa_cons (pe_fld (pv 0) rfl) pa_nil))), ?_⟩
    exact ⟨_, rfl, p, C, dx, _, _, rfl, h1, T.cl, T.nD, flds_days _ _, l, _, rfl, .inl (SqL.of h2), fun l' nl' => k l' _ (same_new nl') nl' upd_same⟩
def spOn (C : Addr) : Sp := fun vs H Q _ => ∃ (p : Addr) (days : List Int) (x : Int), vs = [.ref p, .int x] ∧ TabAt C H p days ∧ Q (.int (onD days x)) H
theorem scServed : FnScope ["self", "day", "part"] ["self", "day"] (defScope sServed) := ⟨rfl, rfl, rfl, by decide +kernel, rfl, by decide +kernel, by decide +kernel⟩
theorem ok_served {fF : Addr} {dF : FuncData} (F : Fun K "served" "Table.served" sServed f fd) (GF : FnOk P w K mg base CX0 1 fF dF ["day", "length"] spFloor) (kF : PySem.W.keepIn K (.ref fF) = true) (bF : Binds K dF ["day", "length"] []) (mF : mg "floor_part" = some (.ref fF))
    (T : Txt K mg C) : FnOk P w K mg base CX0 2 f fd ["self", "day"] (spOn C) := by
  refine F.ok scServed (fun vs H Q E h => ?_) (fun cdv A outer s H vs Q E hr h => ?_)
  · obtain ⟨p, days, x, rfl, _⟩ := h
    rfl
  · obtain ⟨p, days, x, rfl, t, k⟩ := h
    obtain ⟨⟨dx, l, h1, h2⟩, tab⟩ := t
    have hp := tab.pos
    have hm := tab.most
    refine ⟨_, pss_cons (ps_set (i := 2) scServed.nd rfl (.inl rfl) (pe_call GF hr (by rfl) mF kF bF .nil pass0 (pa_cons (pv 1) (pa_cons (pe_fld (pv 0) rfl) pa_nil))))
      (pss_one (ps_ret (pe_op op_add (pe_ix ix_list (pe_fld (pv 0) rfl) (pe_op op_sub (pv 1) (pv 2)) (fun _ _ => rfl)) (pv 2)))), ?_⟩
    refine ⟨_, rfl, _, rfl, p, C, dx, _, _, rfl, h1, T.cl, T.nL, flds_len _ _, _, _, rfl, by omega, by omega, ?_⟩
    have e : x - x / (days.length : Int) * days.length = x % days.length := by
      have := Int.emod_add_mul_ediv x days.length
      rw [Int.mul_comm] at this
      omega
    have b0 := Int.emod_nonneg x (show (days.length : Int) ≠ 0 by omega)
    have b1 := Int.emod_lt_of_pos x (show (0 : Int) < days.length by omega)
    refine ⟨_, rfl, p, C, dx, _, _, rfl, h1, T.cl, T.nD, flds_days _ _, _, rfl, _, rfl, _, _, rfl, rfl, l, _, _, _, rfl, rfl, SqL.of h2, vi_atI (i := (x % days.length).toNat) (by rw [e]; omega) (by omega), _, rfl, _, _, rfl, rfl, ?_⟩
    exact k
theorem scOn : FnScope ["self", "day"] ["self", "day"] (defScope sOn) := ⟨rfl, rfl, rfl, by decide +kernel, rfl, by decide +kernel, by decide +kernel⟩
theorem ok_on {fW fS : Addr} {dW dS : FuncData} (F : Fun K "on" "Table.on" sOn f fd) (GW : FnOk P w K mg base CX0 3 fW dW ["value"] spWantInt) (kW : PySem.W.keepIn K (.ref fW) = true) (bW : Binds K dW ["value"] []) (mW : mg "want_day" = some (.ref fW))
    (GS : FnOk P w K mg base CX0 2 fS dS ["self", "day"] (spOn C)) (bS : Binds K dS ["self", "day"] []) (mS : Meth K C "served" fS) (T : Txt K mg C) : FnOk P w K mg base CX0 4 f fd ["self", "day"] (spOn C) := by
  refine F.ok scOn (fun vs H Q E h => ?_) (fun cdv A outer s H vs Q E hr h => ?_)
  · obtain ⟨p, days, x, rfl, _⟩ := h
    rfl
  · obtain ⟨p, days, x, rfl, t, k⟩ := h
    have hr2 : Room 2 _ := hr.mono (by decide)
    refine ⟨_, pss_cons (ps_expr (pe_call GW hr (by rfl) mW kW bW .nil pass0 (pa_cons (pv 1) pa_nil))) (pss_one (ps_ret (pe_meth (pv 0) T.cl mS GS hr2 bS .nil pass0 (pa_cons (pv 1) pa_nil)))), ?_⟩
    obtain ⟨dx, l, h1, h2⟩ := t.at_
    refine ⟨_, rfl, x, rfl, _, rfl, p, dx, _, rfl, h1, flds_no _ _ (by decide +kernel) (by decide +kernel), _, rfl, p, days, x, rfl, t, k⟩
def spEq (C : Addr) : Sp := fun vs H Q _ => ∃ (p q : Addr) (days : List Int), vs = [.ref p, .ref q] ∧ TabAt C H p days ∧ TabAt C H q days ∧ Q (.bl true) H
theorem scEq : FnScope ["self", "other"] ["self", "other"] (defScope sEq) := ⟨rfl, rfl, rfl, by decide +kernel, rfl, by decide +kernel, by decide +kernel⟩
theorem ok_eq (F : Fun K "__eq__" "Table.__eq__" sEq f fd) (T : Txt K mg C) : FnOk P w K mg base CX0 1 f fd ["self", "other"] (spEq C) := by
  refine F.ok scEq (fun vs H Q E h => ?_) (fun cdv A outer s H vs Q E hr h => ?_)
  · obtain ⟨p, q, days, rfl, _⟩ := h
    rfl
  · obtain ⟨p, q, days, rfl, t, t', k⟩ := h
    obtain ⟨dx, l, h1, h2⟩ := t.at_
    obtain ⟨dy, m, g1, g2⟩ := t'.at_
    have hu := hr.units
    refine ⟨_, pss_cons (ps_if (pt_not (pt_val (pe_callB call_isi (by rfl) T.isi boot_isinstance (pa_cons (pv 1) (pa_cons (pe_glob (v := .ref C) (by rfl) T.mgC rfl) pa_nil))))) (pss_one (ps_ret pe_bl)) pss_nil)
      (pss_one (ps_ret (pe_cmpR (op_eqD hu) (pe_fld (pv 0) rfl) (pe_fld (pv 1) rfl) (nomark _)))), ?_⟩
    refine ⟨_, rfl, .ref q, .ref C, .ref C, .ref C, true, rfl, .own C, t'.ty T, T.tyC, true, rfl, iteF ?_⟩
    refine ⟨_, rfl, p, C, dx, _, _, rfl, h1, T.cl, T.nD, flds_days _ _, _, rfl, q, C, dy, _, _, rfl, g1, T.cl, T.nD, flds_days _ _, dInts days, dInts days, dp_ints h2, dp_ints g2, shaped_ints _, shaped_ints _, ?_⟩
    rw [SeqAt.eqv_refl _ (SeqAt.canLay_of_shaped (shaped_ints days))]
    exact k
end
end K16
set_option maxRecDepth 100000
set_option maxHeartbeats 4000000
/-! Two Tables held against each other. -/
namespace K16
open PySem PySem.Spec PyProof.Rows L2
/-! ### walks over a list or a tuple -/
def ItS (K : PySem.W.Frag) (b : Bool) (a : Addr) : It := match b with
  | true => Itl K a
  | false => Itt K a
theorem walk_sq {K : PySem.W.Frag} {b : Bool} {a : Addr} {vs : List V} : Walk (ItS K b a) vs.length (fun H => H a = some (sq b vs)) (YAt vs) := by
  cases b with
  | true => exact walk_list.mono (fun H h => SqL.of h) fun _ _ _ _ _ _ y => y
  | false => exact walk_tup.mono (fun H h => SqT.of h) fun _ _ _ _ _ _ y => y
def iSq (K : PySem.W.Frag) (i : Nat) : TI := fun σ H R => ∃ a b vs, σ[i]? = some (some (.ref a)) ∧ H a = some (sq b vs) ∧ R (ItS K b a) H
theorem pi_sq {X : Cx} {tg l : Expr} {i : Nat} (hl : PE X l (tVar i)) : PI X tg l (iSq X.K i) := by
  refine ⟨fun pins s σ H R I h => ?_⟩
  obtain ⟨a, b, vs, e, ha, r⟩ := h
  cases b with
  | true => exact (pi_list hl).run pins s σ H R I ⟨_, e, a, rfl, ⟨vs, SqL.of ha⟩, r⟩
  | false => exact (pi_tup hl).run pins s σ H R I ⟨_, e, a, rfl, ⟨vs, SqT.of ha⟩, r⟩
section
variable {P : Program} {w : World} {K : PySem.W.Frag} {mg : Str → Option Value} {base : Heap} {C f : Addr} {fd : FuncData}
def spCommon (C : Addr) : Sp := fun vs H Q _ => ∃ (p q : Addr) (d e : List Int), vs = [.ref p, .ref q] ∧ TabAt C H p d ∧ TabAt C H q e ∧ d.length = e.length ∧ Q (.int d.length) H
theorem scCommon : FnScope ["table", "other_table", "length"] ["table", "other_table"] (defScope sCommon) := ⟨rfl, rfl, rfl, by decide +kernel, rfl, by decide +kernel, by decide +kernel⟩
theorem ok_common {fM g pr : Addr} {dM dG : FuncData} (F : Fun K "common_length" "common_length" sCommon f fd) (GM : FnOk P w K mg base CX0 1 fM dM ["what", "limit", "number"] spMost) (kM : PySem.W.keepIn K (.ref fM) = true) (bM : Binds K dM ["what", "limit", "number"] []) (mM : mg "want_at_most" = some (.ref fM))
    (GG : FnOk P w K mg base CX0 1 g dG ["self"] (spLength C)) (bG : Binds K dG ["self"] []) (hp : PropOf K C "length" pr g) (T : Txt K mg C) : FnOk P w K mg base CX0 3 f fd ["table", "other_table"] (spCommon C) := by
  obtain ⟨tm, hmost⟩ := T.most
  refine F.ok scCommon (fun vs H Q E h => ?_) (fun cdv A outer s H vs Q E hr h => ?_)
  · obtain ⟨p, q, d, e, rfl, _⟩ := h
    rfl
  · obtain ⟨p, q, d, e, rfl, t, t', el, k⟩ := h
    have hr1 : Room 1 _ := hr.mono (by decide)
    obtain ⟨dx, l, h1, h2⟩ := t.at_
    obtain ⟨dy, m, g1, g2⟩ := t'.at_
    have h0 := t.tab.pos
    have hm := t.tab.most
    refine ⟨_, pss_cons (ps_set (i := 2) scCommon.nd rfl (.inl rfl) (pe_callBfun cr_lcm (by rfl) T.lcm (pa_cons (pe_prop (pv 0) T.cl hp GG hr bG .nil pass0 rfl) (pa_cons (pe_prop (pv 1) T.cl hp GG hr bG .nil pass0 rfl) pa_nil))))
      (pss_cons (ps_expr (pe_call GM hr1 (by rfl) mM kM bM .nil pass0 (pa_cons pe_str (pa_cons (pe_glob (v := .int 600) (by rfl) hmost ⟨_, rfl⟩) (pa_cons (pv 2) pa_nil)))))
      (pss_one (ps_ret (pv 2)))), ?_⟩
    refine ⟨_, rfl, p, dx, _, rfl, h1, p, d, rfl, t, _, rfl, q, dy, _, rfl, g1, q, e, rfl, t', (d.length : Int), (e.length : Int), rfl, by omega, by omega, ?_⟩
    have ee : ((Nat.lcm (d.length : Int).natAbs (e.length : Int).natAbs : Nat) : Int) = (d.length : Int) := by
      rw [← el, Nat.lcm_self]
      omega
    rw [ee]
    refine ⟨_, rfl, _, 600, (d.length : Int), rfl, by omega, ?_⟩
    exact ⟨_, rfl, k⟩
def spGaps (C : Addr) : Sp := fun vs H Q _ => ∃ (p q : Addr) (d e : List Int), vs = [.ref p, .ref q] ∧ TabAt C H p d ∧ TabAt C H q e ∧ d.length = e.length ∧
  ∀ (l : Addr) (H' : Hp), Same H H' → H l = none → H' l = some (.lst (vi ((List.range d.length).map fun (i : Nat) => d.getD i 0 - e.getD i 0))) → Q (.ref l) H'
theorem scGaps : FnScope ["table", "other_table", "length", "day"] ["table", "other_table"] (defScope sGaps) := ⟨rfl, rfl, rfl, by decide +kernel, rfl, by decide +kernel, by decide +kernel⟩
theorem ok_gaps {fC fS : Addr} {dC dS : FuncData} (F : Fun K "gaps_of" "gaps_of" sGaps f fd) (GC : FnOk P w K mg base CX0 3 fC dC ["table", "other_table"] (spCommon C)) (kC : PySem.W.keepIn K (.ref fC) = true) (bC : Binds K dC ["table", "other_table"] []) (mC : mg "common_length" = some (.ref fC))
    (GS : FnOk P w K mg base CX0 2 fS dS ["self", "day"] (spOn C)) (bS : Binds K dS ["self", "day"] []) (mS : Meth K C "served" fS) (T : Txt K mg C) : FnOk P w K mg base CX0 4 f fd ["table", "other_table"] (spGaps C) := by
  have nd := scGaps.nd
  refine F.ok scGaps (fun vs H Q E h => ?_) (fun cdv A outer s H vs Q E hr h => ?_)
  · obtain ⟨p, q, d, e, rfl, _⟩ := h
    rfl
  · obtain ⟨p, q, d, e, rfl, t, t', el, k⟩ := h
    have hr2 : Room 2 _ := hr.mono (by decide)
    have hm := t.tab.most
    refine ⟨_, pss_cons (ps_set (i := 2) nd rfl (.inl rfl) (pe_call GC hr (by rfl) mC kC bC .nil pass0 (pa_cons (pv 0) (pa_cons (pv 1) pa_nil))))
      (pss_one (ps_ret (pe_lc (own := [("day", 3)]) (g := gName 3) (tt := tYes) rfl nd (pi_range1 (by rfl) T.range (pa_cons (pv 2) pa_nil)) (blkOk_by (N := ["table", "other_table", "length", "day"]) (sc := defScope sGaps) (by decide +kernel))
        (fun _ _ _ _ _ => pg_name (i := 3) nd rfl (.inl rfl)) (fun _ _ _ _ _ => pts_nil) (fun _ _ _ _ _ => pe_op op_sub (pe_meth (pv 0) T.cl mS GS hr2 bS .nil pass0 (pa_cons (pv 3) pa_nil)) (pe_meth (pv 1) T.cl mS GS hr2 bS .nil pass0 (pa_cons (pv 3) pa_nil)))))), ?_⟩
    refine ⟨_, rfl, _, rfl, p, q, d, e, rfl, t, t', el, ?_⟩
    refine ⟨_, rfl, _, rfl, by omega, by omega, fun D nD => ?_⟩
    refine comp_rng nD (fun i => V.int (d.getD i 0 - e.getD i 0)) (by omega) (fun i H1 hi s1 R r => ?_) fun H1 s1 eD => ?_
    · have hi : i < d.length := by omega
      have t1 := t.same s1
      have t1' := t'.same s1
      obtain ⟨dx, l, h1, h2⟩ := t1.at_
      obtain ⟨dy, m, g1, g2⟩ := t1'.at_
      refine ⟨_, rfl, p, dx, _, rfl, h1, flds_no _ _ (by decide +kernel) (by decide +kernel), _, rfl, p, d, _, rfl, t1, ?_⟩
      refine ⟨_, rfl, q, dy, _, rfl, g1, flds_no _ _ (by decide +kernel) (by decide +kernel), _, rfl, q, e, _, rfl, t1', ?_⟩
      refine ⟨_, _, rfl, rfl, ?_⟩
      have q := r _ (Same.refl _)
      rw [← onD_at hi, ← onD_at (show i < e.length by omega)] at q
      rw [Int.zero_add]
      exact q
    · refine k D H1 s1 nD ?_
      rw [eD]
      rw [show (d.length : Int).toNat = d.length by omega]
      unfold vi
      rw [List.map_map]
      rfl
def spFirst (C : Addr) : Sp := fun vs H Q _ => ∃ (p q : Addr) (d e : List Int), vs = [.ref p, .ref q] ∧ TabAt C H p d ∧ TabAt C H q e ∧ d.length = e.length ∧ (∀ i, i < d.length → d.getD i 0 ≤ e.getD i 0) ∧ ∀ H', Same H H' → Q .non H'
theorem scFirst : FnScope ["table", "other_table", "day", "gap"] ["table", "other_table"] (defScope sFirst) := ⟨rfl, rfl, rfl, by decide +kernel, rfl, by decide +kernel, by decide +kernel⟩
theorem ok_first {fG : Addr} {dG : FuncData} (F : Fun K "first_above" "first_above" sFirst f fd) (GG : FnOk P w K mg base CX0 4 fG dG ["table", "other_table"] (spGaps C)) (kG : PySem.W.keepIn K (.ref fG) = true) (bG : Binds K dG ["table", "other_table"] []) (mG : mg "gaps_of" = some (.ref fG))
    (T : Txt K mg C) : FnOk P w K mg base CX0 5 f fd ["table", "other_table"] (spFirst C) := by
  have nd := scFirst.nd
  refine F.ok scFirst (fun vs H Q E h => ?_) (fun cdv A outer s H vs Q E hr h => ?_)
  · obtain ⟨p, q, d, e, rfl, _⟩ := h
    rfl
  · obtain ⟨p, q, d, e, rfl, t, t', el, hle, k⟩ := h
    refine ⟨_, pss_cons (ps_for PassesOwn.never rfl (pi_enum (by rfl) T.enum (pa_cons (pe_call GG hr (by rfl) mG kG bG .nil pass0 (pa_cons (pv 0) (pa_cons (pv 1) pa_nil))) pa_nil)) (pg_tup rfl (pgs_cons (pg_name (i := 2) nd rfl (.inl rfl)) (pgs_cons (pg_name (i := 3) nd rfl (.inl rfl)) pgs_nil)))
        (pss_one (ps_if (pt_cmpR op_gt (pv 3) pe_int (nomark _)) (pss_one (ps_ret (pv 2))) pss_nil)))
      (pss_one (ps_ret pe_non)), ?_⟩
    refine ⟨_, rfl, _, rfl, p, q, d, e, rfl, t, t', el, fun l H1 s1 nl hl => ?_⟩
    refine ⟨l, _, rfl, SqL.of hl, ?_⟩
    refine for_it (walk_enum (xs := vi ((List.range d.length).map fun (i : Nat) => d.getD i 0 - e.getD i 0))) (fun i σ H2 => (∃ y2 y3, σ = [some (.ref p), some (.ref q), y2, y3]) ∧ Same H1 H2) ⟨⟨none, none, rfl⟩, Same.refl _⟩ (fun i σ H2 _ hP => SqL.of (hP.2 _ _ hl)) (fun i x σ H2 H3 hi hP hY => ?_) fun σ H2 hP => ?_
    · obtain ⟨⟨y2, y3, rfl⟩, s2⟩ := hP
      obtain ⟨t0, x, y, rfl, nt, rfl, ex, ey⟩ := hY
      obtain ⟨z, ez, rfl⟩ := vi_get ey
      have ex := Option.some.inj ex
      subst ex
      have hi2 : i < d.length := by
        rw [List.length_map, List.length_map, List.length_range] at hi
        exact hi
      have ez2 : z = d.getD i 0 - e.getD i 0 := by
        rw [List.getElem?_map, List.getElem?_range hi2] at ez
        exact (Option.some.inj ez).symm
      refine ⟨t0, _, rfl, SqT.of upd_same, rfl, _, _, rfl, _, _, rfl, rfl, ?_⟩
      refine ⟨_, rfl, _, _, rfl, rfl, _, rfl, ?_⟩
      refine if_f (by have := hle i hi2; omega) ?_
      exact ⟨⟨_, _, rfl⟩, s2.trans (same_new nt)⟩
    · exact k _ (s1.trans hP.2)
end
end K16
set_option maxRecDepth 100000
set_option maxHeartbeats 4000000
/-! Rows: looked at, brought down. -/
namespace K16
open PySem PySem.Spec PyProof.Rows L2
theorem RowsV.tup {H : Hp} {vs : List V} {rows : List Row} (R : RowsV H vs rows) {i : Nat} (h : i < rows.length) : ∃ t, vs[i]? = some (.ref t) ∧ H t = some (.tup [.int (K16.at_ rows i).1, .int (K16.at_ rows i).2]) := by
  obtain ⟨t, a, b⟩ := R.at_ i rows[i] (List.getElem?_eq_getElem h)
  refine ⟨t, a, ?_⟩
  show H t = some (.tup [.int (rows.getD i (0, 0)).1, .int (rows.getD i (0, 0)).2])
  rw [List.getD_eq_getElem?_getD, List.getElem?_eq_getElem h]
  exact b
theorem rows_get {l : List Row} {i : Nat} {r : Row} (h : l[i]? = some r) : at_ l i = r := by
  show l.getD i (0, 0) = r
  rw [List.getD_eq_getElem?_getD, h]
  rfl
theorem kvs_some : ∀ {ms : List Row} {a : Int} {v : V}, valV (kvsOf ms) (Sum.inl a : Key) = some v → ∃ s, v = .int s ∧ (a, s) ∈ ms
  | [], a, v, h => by cases h
  | m :: r, a, v, h => by
    by_cases e : m.1 = a
    · have h2 : valV (kvsOf (m :: r)) (Sum.inl a : Key) = some (V.int m.2) := valV_pos (p := ((Sum.inl m.1 : Key), V.int m.2)) (by rw [e])
      rw [h2] at h
      refine ⟨m.2, (Option.some.inj h).symm, ?_⟩
      rw [← e]
      exact List.mem_cons_self
    · have h2 : valV (kvsOf (m :: r)) (Sum.inl a : Key) = valV (kvsOf r) (Sum.inl a) := valV_neg (p := ((Sum.inl m.1 : Key), V.int m.2)) (fun z => e (Sum.inl.inj z))
      rw [h2] at h
      obtain ⟨s, h3, h4⟩ := kvs_some h
      exact ⟨s, h3, List.mem_cons_of_mem _ h4⟩
theorem kvs_none : ∀ {ms : List Row} {a : Int}, valV (kvsOf ms) (Sum.inl a : Key) = none → ∀ p, p ∈ ms → p.1 ≠ a
  | [], a, h, p, hp => by cases hp
  | m :: r, a, h, p, hp => by
    by_cases e : m.1 = a
    · have h2 : valV (kvsOf (m :: r)) (Sum.inl a : Key) = some (V.int m.2) := valV_pos (p := ((Sum.inl m.1 : Key), V.int m.2)) (by rw [e])
      rw [h2] at h
      cases h
    · have h2 : valV (kvsOf (m :: r)) (Sum.inl a : Key) = valV (kvsOf r) (Sum.inl a) := valV_neg (p := ((Sum.inl m.1 : Key), V.int m.2)) (fun z => e (Sum.inl.inj z))
      rw [h2] at h
      rcases List.mem_cons.mp hp with z | hp
      · rw [z]
        exact e
      · exact kvs_none h p hp
theorem kvs_snoc (ms : List Row) (a s : Int) : kvsOf ms ++ [((Sum.inl a : Key), V.int s)] = kvsOf (ms ++ [(a, s)]) := by
  unfold kvsOf
  rw [List.map_append]
  rfl
section
variable {P : Program} {w : World} {K : PySem.W.Frag} {mg : Str → Option Value} {base : Heap} {C f : Addr} {fd : FuncData}
def spIsRows : Sp := fun vs H Q _ => ∃ (a : Addr) (b : Bool) (xs : List V) (rows : List Row), vs = [.ref a] ∧ RowsAt H b a xs rows ∧ 1 ≤ rows.length ∧ rows.length ≤ 60 ∧ ∀ H', Same H H' → Q (.bl true) H'
theorem scIsRows : FnScope ["value", "row"] ["value"] (defScope sIsRows) := ⟨rfl, rfl, rfl, by decide +kernel, rfl, by decide +kernel, by decide +kernel⟩
theorem ok_isRows {fL fD : Addr} {dL dD : FuncData} (F : Fun K "is_rows" "is_rows" sIsRows f fd) (GL : FnOk P w K mg base CX0 1 fL dL ["value"] spSeq) (kL : PySem.W.keepIn K (.ref fL) = true) (bL : Binds K dL ["value"] []) (mL : mg "is_list" = some (.ref fL))
    (GD : FnOk P w K mg base CX0 2 fD dD ["value"] spInt) (kD : PySem.W.keepIn K (.ref fD) = true) (bD : Binds K dD ["value"] []) (mD : mg "is_day" = some (.ref fD)) (T : Txt K mg C) : FnOk P w K mg base CX0 3 f fd ["value"] spIsRows := by
  have nd := scIsRows.nd
  obtain ⟨tm, hmost⟩ := T.mostR
  refine F.ok scIsRows (fun vs H Q E h => ?_) (fun cdv A outer s H vs Q E hr h => ?_)
  · obtain ⟨a, b, xs, rows, rfl, _⟩ := h
    rfl
  · obtain ⟨a, b, xs, rows, rfl, R, h0, hm, k⟩ := h
    have hr1 : Room 1 _ := hr.mono (by decide)
    have hl := R.rows.len
    refine ⟨_, pss_cons (ps_if (PW.pt (pw_or (pt_not (pt_val (pe_call GL hr1 (by rfl) mL kL bL .nil pass0 (pa_cons (pv 0) pa_nil))))
        (pw_or1 (pt_not (pt_chain op_le op_le pe_int (pe_callB call_len_seq (by rfl) T.len boot_len (pa_cons (pv 0) pa_nil)) (pe_glob (v := .int 60) (by rfl) hmost ⟨_, rfl⟩)))))) (pss_one (ps_ret pe_bl)) pss_nil)
      (pss_cons (ps_for PassesOwn.never rfl (pi_sq (pv 0)) (pg_name (i := 1) nd rfl (.inl rfl))
        (pss_one (ps_if (PW.pt (pw_or (pt_not (pt_val (pe_callB call_isi (by rfl) T.isi boot_isinstance (pa_cons (pv 1) (pa_cons (pe_bltn (v := .ty "tuple") (by rfl) T.tuple boot_tuple rfl) pa_nil)))))
          (pw_or (pt_cmpR op_ne (pe_callB call_len_seq (by rfl) T.len boot_len (pa_cons (pv 1) pa_nil)) pe_int (nomark _))
          (pw_or (pt_not (pt_val (pe_call GD hr (by rfl) mD kD bD .nil pass0 (pa_cons (pe_ix ix_tup (pv 1) pe_int (fun _ _ => rfl)) pa_nil))))
          (pw_or1 (pt_not (pt_val (pe_call GD hr (by rfl) mD kD bD .nil pass0 (pa_cons (pe_ix ix_tup (pv 1) pe_int (fun _ _ => rfl)) pa_nil))))))))) (pss_one (ps_ret pe_bl)) pss_nil)))
      (pss_one (ps_ret pe_bl))), ?_⟩
    refine ⟨_, rfl, a, b, xs, rfl, R.at_, fun H1 s1 => ⟨true, rfl, iteF ?_⟩⟩
    have R1 := R.same s1
    have lenA : SqL K H1 a xs ∨ SqT K H1 a xs := by
      have e := R1.at_
      cases b with
      | true => exact .inl (SqL.of e)
      | false => exact .inr (SqT.of e)
    refine ⟨_, rfl, a, _, rfl, lenA, _, _, rfl, rfl, _, rfl, ?_⟩
    refine if_t (show (1 : Int) ≤ (xs.length : Int) by omega) ?_
    refine ⟨_, _, rfl, rfl, _, rfl, ?_⟩
    refine ifn_t (show (xs.length : Int) ≤ 60 by omega) ?_
    refine ⟨a, b, xs, rfl, R1.at_, ?_⟩
    refine for_it (walk_sq (vs := xs)) (fun i σ H2 => (∃ y1, σ = [some (.ref a), y1]) ∧ Same H1 H2) ⟨⟨none, rfl⟩, Same.refl _⟩ (fun i σ H2 _ hP => hP.2 _ _ R1.at_) (fun i x σ H2 H3 hi hP hY => ?_) fun σ H2 hP => k _ (s1.trans hP.2)
    obtain ⟨⟨y1, rfl⟩, s2⟩ := hP
    obtain ⟨rfl, ex⟩ := hY
    obtain ⟨t, et, ht⟩ := (R1.rows.same s2).tup (show i < rows.length by omega)
    rw [ex] at et
    have et := Option.some.inj et
    subst et
    refine ⟨_, rfl, .ref t, .ty "tuple", .type "tuple", .type "tuple", true, rfl, .ty "tuple", .base (.tup ht), kit_ty (by decide +kernel), true, rfl, iteF ?_⟩
    refine ⟨_, rfl, t, _, rfl, .inr (SqT.of ht), rfl, _, rfl, ?_⟩
    refine ifn_t rfl ?_
    refine ⟨_, rfl, t, _, _, _, rfl, rfl, SqT.of ht, atI_nat (j := 0) rfl, _, rfl, true, rfl, iteF ?_⟩
    refine ⟨_, rfl, t, _, _, _, rfl, rfl, SqT.of ht, atI_nat (j := 1) rfl, _, rfl, true, rfl, iteF ?_⟩
    exact ⟨⟨_, rfl⟩, s2⟩
/-- what the program knows of rows, or that no rule serves them -/
def spBrought : Sp := fun vs H Q _ => ∃ (n : Nat) (a : Addr) (b : Bool) (xs : List V) (rows : List Row), vs = [.int n, .ref a] ∧ 0 < n ∧ n ≤ 600 ∧ RowsAt H b a xs rows ∧ 1 ≤ rows.length ∧ rows.length ≤ 60 ∧
  (¬ Kept n rows → ∀ H', Same H H' → Q .non H') ∧ (Kept n rows → ∀ (H' : Hp) (l : Addr) (zs : List V) (known : List Row), Same H H' → H' l = some (.lst zs) → RowsV H' zs known → Known n rows known → Q (.ref l) H')
theorem scBrought : FnScope ["length", "rows", "found", "asked", "served", "part", "known", "place"] ["length", "rows"] (defScope sBrought) := ⟨rfl, rfl, rfl, by decide +kernel, rfl, by decide +kernel, by decide +kernel⟩
theorem ok_brought {fF : Addr} {dF : FuncData} (F : Fun K "brought_down" "brought_down" sBrought f fd) (GF : FnOk P w K mg base CX0 1 fF dF ["day", "length"] spFloor) (kF : PySem.W.keepIn K (.ref fF) = true) (bF : Binds K dF ["day", "length"] []) (mF : mg "floor_part" = some (.ref fF))
    (T : Txt K mg C) : FnOk P w K mg base CX0 2 f fd ["length", "rows"] spBrought := by
  have nd := scBrought.nd
  refine F.ok scBrought (fun vs H Q E h => ?_) (fun cdv A outer s H vs Q E hr h => ?_)
  · obtain ⟨n, a, b, xs, rows, rfl, _⟩ := h
    rfl
  · obtain ⟨n, a, b, xs, rows, rfl, n0, n1, R, h0, hm, kN, kS⟩ := h
    have hl := R.rows.len
    have hn : (0 : Int) < n := by omega
    refine ⟨_, pss_cons (ps_set (i := 2) nd rfl (.inl rfl) pe_dnewK)
      (pss_cons (ps_for PassesOwn.never rfl (pi_sq (pv 1)) (pg_tup rfl (pgs_cons (pg_name (i := 3) nd rfl (.inl rfl)) (pgs_cons (pg_name (i := 4) nd rfl (.inl rfl)) pgs_nil)))
        (pss_cons (ps_set (i := 5) nd rfl (.inl rfl) (pe_call GF hr (by rfl) mF kF bF .nil pass0 (pa_cons (pv 3) (pa_cons (pv 0) pa_nil))))
        (pss_one (ps_if (pt_cmpR op_ne (pe_dsetd (pv 2) (pe_op op_sub (pv 3) (pv 5)) (pe_op op_sub (pv 4) (pv 5)) ⟨rfl, rfl, rfl, rfl⟩) (pe_op op_sub (pv 4) (pv 5)) (nomark _)) (pss_one (ps_ret pe_non)) pss_nil))))
      (pss_cons (ps_set (i := 6) nd rfl (.inl rfl) (pe_callB (sorted_items rfl) (by rfl) T.sorted boot_sorted (pa_cons (pe_bm0 PySem.F.plainAttrs_dict PySem.F.slot_dict_items PySem.F.type_dict_items mt_itemsI (pv 2)) pa_nil)))
      (pss_cons (ps_for PassesOwn.never rfl (pi_range1 (by rfl) T.range (pa_cons (pe_op op_sub (pe_callB call_len_seq (by rfl) T.len boot_len (pa_cons (pv 6) pa_nil)) pe_int) pa_nil)) (pg_name (i := 7) nd rfl (.inl rfl))
        (pss_one (ps_if (pt_cmpR op_gt (pe_ix ix_tup (pe_ix ix_list (pv 6) (pv 7) (fun _ _ => rfl)) pe_int (fun _ _ => rfl)) (pe_ix ix_tup (pe_ix ix_list (pv 6) (pe_op op_add (pv 7) pe_int) (fun _ _ => rfl)) pe_int (fun _ _ => rfl)) (nomark _)) (pss_one (ps_ret pe_non)) pss_nil)))
      (pss_one (ps_ret (pe_ifExp (pt_cmpR op_le (pe_ix ix_tup (pe_ix ix_list (pv 6) (pe_un un_neg pe_int) (fun _ _ => rfl)) pe_int (fun _ _ => rfl)) (pe_op op_add (pe_ix ix_tup (pe_ix ix_list (pv 6) pe_int (fun _ _ => rfl)) pe_int (fun _ _ => rfl)) (pv 0)) (nomark _)) (pv 6) pe_non)))))), ?_⟩
    -- found = {}
    intro d hd
    have s1 := same_new (o := .dK []) hd
    refine ⟨a, b, xs, rfl, s1 _ _ R.at_, ?_⟩
    -- the rows, one by one
    refine for_it (walk_sq (vs := xs)) (fun i σ H2 => ∃ (y3 y4 y5 : Option V) (ms : List Row), σ = [some (.int n), some (.ref a), some (.ref d), y3, y4, y5, none, none] ∧ Same H H2 ∧ H2 d = some (.dK (kvsOf ms)) ∧ (ms.map (·.1)).Nodup ∧ ms.length ≤ i ∧
      ∀ p, p ∈ ms ↔ ∃ r, r ∈ rows.take i ∧ down n r = p) ⟨none, none, none, [], rfl, s1, upd_same, List.nodup_nil, Nat.le_refl _, fun p => by simp⟩ (fun i σ H2 _ hP => ?_) (fun i x σ H2 H3 hi hP hY => ?_) fun σ H2 hP => ?_
    · obtain ⟨y3, y4, y5, ms, _, s2, _⟩ := hP
      exact s2 _ _ R.at_
    · obtain ⟨y3, y4, y5, ms, rfl, s2, hd2, hnd, hml, hmem⟩ := hP
      obtain ⟨rfl, ex⟩ := hY
      have hir : i < rows.length := by omega
      obtain ⟨t, et, ht⟩ := (R.rows.same s2).tup hir
      rw [ex] at et
      have et := Option.some.inj et
      subst et
      have hri : rows[i]? = some (at_ rows i) := by
        rw [List.getElem?_eq_getElem hir, ← rows_get (List.getElem?_eq_getElem hir)]
      have hrm : at_ rows i ∈ rows := at_mem hir
      refine ⟨t, _, rfl, SqT.of ht, rfl, _, _, rfl, _, _, rfl, rfl, ?_⟩
      refine ⟨_, rfl, _, rfl, _, _, rfl, hn, by omega, ?_⟩
      refine ⟨_, rfl, d, rfl, .inl ⟨_, .inl hd2⟩, _, rfl, _, rfl, _, _, rfl, rfl, _, rfl, _, rfl, _, _, rfl, rfl, kvsOf ms, Sum.inl ((at_ rows i).1 - (at_ rows i).1 / n * n), hd2, rfl, ?_, fun v hv => ?_, fun hv => ?_⟩
      · unfold kvsOf
        rw [List.length_map]
        exact small1000 (by omega)
      · obtain ⟨s0, rfl, hs0⟩ := kvs_some hv
        refine ⟨_, rfl, _, rfl, _, _, rfl, rfl, rfl, _, rfl, ?_⟩
        obtain ⟨r0, hr0, e0⟩ := (hmem _).mp hs0
        have hr0' : r0 ∈ rows := List.mem_of_mem_take hr0
        by_cases e : s0 = (at_ rows i).2 - (at_ rows i).1 / n * n
        · refine ifn_t (by rw [e]) ?_
          refine ⟨_, _, _, ms, rfl, s2, hd2, hnd, by omega, fun p => ?_⟩
          rw [hmem p, List.take_add_one, hri]
          constructor
          · rintro ⟨r, h1, h2⟩
            exact ⟨r, List.mem_append_left _ h1, h2⟩
          · rintro ⟨r, h1, h2⟩
            rcases List.mem_append.mp h1 with h1 | h1
            · exact ⟨r, h1, h2⟩
            · have er : r = at_ rows i := by simpa using h1
              refine ⟨r0, hr0, ?_⟩
              rw [e0, ← h2, er, e]
              rfl
        · refine ifn_f (fun z => e (V.int.inj z)) ?_
          refine kN (not_kept_dup hn hr0' hrm ?_ ?_) _ s2
          · rw [e0]
            rfl
          · rw [e0]
            exact e
      · refine ⟨_, rfl, _, rfl, _, _, rfl, rfl, rfl, _, rfl, ?_⟩
        refine ifn_t rfl ?_
        refine ⟨_, _, _, ms ++ [down n (at_ rows i)], rfl, same_off s2 hd, ?_, ?_, ?_, fun p => ?_⟩
        · rw [upd_same, putK_new _ hv, kvs_snoc]
          rfl
        · rw [List.map_append]
          refine List.nodup_append.mpr ⟨hnd, by simp, fun x hx y hy z => ?_⟩
          obtain ⟨p, hp, e⟩ := List.mem_map.mp hx
          have ey : y = (down n (at_ rows i)).1 := by simpa using hy
          refine kvs_none hv p hp ?_
          rw [e, z, ey]
          rfl
        · rw [List.length_append, List.length_singleton]
          omega
        · rw [List.take_add_one, hri]
          constructor
          · intro hp
            rcases List.mem_append.mp hp with hp | hp
            · obtain ⟨r, h1, h2⟩ := (hmem p).mp hp
              exact ⟨r, List.mem_append_left _ h1, h2⟩
            · have e : p = down n (at_ rows i) := by simpa using hp
              exact ⟨_, List.mem_append_right _ (by simp), e.symm⟩
          · rintro ⟨r, h1, h2⟩
            rcases List.mem_append.mp h1 with h1 | h1
            · exact List.mem_append_left _ ((hmem p).mpr ⟨r, h1, h2⟩)
            · have er : r = at_ rows i := by simpa using h1
              refine List.mem_append_right _ ?_
              rw [← h2, er]
              simp
    -- known = sorted(found.items())
    obtain ⟨y3, y4, y5, ms, rfl, s2, hd2, hnd, hml, hmem⟩ := hP
    refine ⟨_, rfl, .inr (.inr (.inl ⟨rfl, .inl ⟨_, hd2⟩⟩)), d, _, rfl, rfl, hd2, fun v nv => ?_⟩
    have s3 := same_new (o := DX.itemsO v d) nv
    refine ⟨v, d, ms, rfl, upd_same, s3 _ _ hd2, hnd, fun H4 l zs known s4 nl pm rise hl4 RZ => ?_⟩
    have K1 : Known n rows known := by
      refine ⟨fun p => ?_, rise⟩
      rw [pm.mem_iff, hmem p, List.take_of_length_le (by omega)]
    have sH : Same H H4 := (s2.trans s3).trans s4
    have hkl := K1.pos (List.ne_nil_of_length_pos (by omega))
    have hzl := RZ.len
    have hk60 : known.length ≤ 60 := by
      rw [pm.length_eq]
      omega
    refine ⟨_, rfl, l, _, rfl, .inl (SqL.of hl4), _, _, rfl, rfl, _, rfl, by omega, by omega, ?_⟩
    refine for_range (fun i σ H5 => (∃ y7, σ = [some (.int n), some (.ref a), some (.ref d), y3, y4, y5, some (.ref l), y7]) ∧ H5 = H4 ∧ ∀ j, j < i → (at_ known j).2 ≤ (at_ known (j + 1)).2) ⟨⟨none, rfl⟩, rfl, fun j hj => absurd hj (Nat.not_lt_zero _)⟩ (fun i σ H5 hi hP => ?_) fun σ H5 hP => ?_
    · obtain ⟨⟨y7, rfl⟩, rfl, hup⟩ := hP
      have hi2 : i + 1 < known.length := by omega
      obtain ⟨t1, e1, g1⟩ := RZ.tup (show i < known.length by omega)
      obtain ⟨t2, e2, g2⟩ := RZ.tup hi2
      refine ⟨_, rfl, _, rfl, l, _, _, _, rfl, rfl, SqL.of hl4, at_of (j := i) (by omega) e1, t1, _, _, _, rfl, rfl, SqT.of g1, atI_nat (j := 1) rfl, ?_⟩
      refine ⟨_, rfl, _, rfl, _, _, rfl, rfl, l, _, _, _, rfl, rfl, SqL.of hl4, at_of (j := i + 1) (by omega) e2, t2, _, _, _, rfl, rfl, SqT.of g2, atI_nat (j := 1) rfl, ?_⟩
      refine ⟨_, _, rfl, rfl, _, rfl, ?_⟩
      by_cases q : (at_ known (i + 1)).2 < (at_ known i).2
      · refine if_t q ?_
        exact kN (not_kept_drop hn K1 hi2 q) _ sH
      · refine if_f q ?_
        refine ⟨⟨_, rfl⟩, rfl, fun j hj => ?_⟩
        by_cases e : j = i
        · rw [e]
          omega
        · exact hup j (by omega)
    obtain ⟨⟨y7, rfl⟩, rfl, hup⟩ := hP
    obtain ⟨t1, e1, g1⟩ := RZ.tup (show known.length - 1 < known.length by omega)
    obtain ⟨t2, e2, g2⟩ := RZ.tup hkl
    have e1' : zs[zs.length - 1]? = some (.ref t1) := by
      rw [hzl]
      exact e1
    refine ⟨_, rfl, 1, rfl, l, _, _, _, rfl, rfl, SqL.of hl4, atI_neg (by omega) e1', t1, _, _, _, rfl, rfl, SqT.of g1, atI_nat (j := 1) rfl, ?_⟩
    refine ⟨_, rfl, l, _, _, _, rfl, rfl, SqL.of hl4, atI_nat (j := 0) e2, t2, _, _, _, rfl, rfl, SqT.of g2, atI_nat (j := 1) rfl, _, rfl, _, _, rfl, rfl, _, _, rfl, rfl, _, rfl, ?_⟩
    by_cases q : (at_ known (known.length - 1)).2 ≤ (at_ known 0).2 + n
    · refine if_t q ?_
      exact ⟨_, rfl, kS (kept_of hn K1 (fun i hi => hup i (by omega)) q) _ l zs known sH hl4 RZ K1⟩
    · refine if_f q ?_
      exact kN (not_kept_far hn K1 hkl (by omega)) _ sH
end
end K16
set_option maxRecDepth 100000
set_option maxHeartbeats 4000000
/-! The earliest and the latest rule. -/
namespace K16
open PySem PySem.Spec PyProof.Rows L2
section
variable {P : Program} {w : World} {K : PySem.W.Frag} {mg : Str → Option Value} {base : Heap} {C f : Addr} {fd : FuncData}
theorem scWanted : FnScope ["count", "rows"] ["count", "rows"] (defScope sWanted) := ⟨rfl, rfl, rfl, by decide +kernel, rfl, by decide +kernel, by decide +kernel⟩
theorem ok_wanted {fL fR fM fB : Addr} {dL dR dM dB : FuncData} (F : Fun K "wanted_rows" "wanted_rows" sWanted f fd)
    (GL : FnOk P w K mg base CX0 4 fL dL ["count"] spWantLen) (kL : PySem.W.keepIn K (.ref fL) = true) (bL : Binds K dL ["count"] []) (mL : mg "want_length" = some (.ref fL))
    (GR : FnOk P w K mg base CX0 3 fR dR ["value"] spIsRows) (kR : PySem.W.keepIn K (.ref fR) = true) (bR : Binds K dR ["value"] []) (mR : mg "is_rows" = some (.ref fR))
    (GM : FnOk P w K mg base CX0 1 fM dM ["what", "limit", "number"] spMost) (kM : PySem.W.keepIn K (.ref fM) = true) (bM : Binds K dM ["what", "limit", "number"] []) (mM : mg "want_at_most" = some (.ref fM))
    (GB : FnOk P w K mg base CX0 2 fB dB ["length", "rows"] spBrought) (kB : PySem.W.keepIn K (.ref fB) = true) (bB : Binds K dB ["length", "rows"] []) (mB : mg "brought_down" = some (.ref fB))
    (T : Txt K mg C) : FnOk P w K mg base CX0 5 f fd ["count", "rows"] spBrought := by
  obtain ⟨tm, hmost⟩ := T.most
  refine F.ok scWanted (fun vs H Q E h => ?_) (fun cdv A outer s H vs Q E hr h => ?_)
  · obtain ⟨n, a, b, xs, rows, rfl, _⟩ := h
    rfl
  · obtain ⟨n, a, b, xs, rows, rfl, n0, n1, R, h0, hm, kN, kS⟩ := h
    have hr1 : Room 1 _ := hr.mono (by decide)
    have hr2 : Room 2 _ := hr.mono (by decide)
    have hr3 : Room 3 _ := hr.mono (by decide)
    refine ⟨_, pss_cons (ps_expr (pe_call GL hr (by rfl) mL kL bL .nil pass0 (pa_cons (pv 0) pa_nil)))
      (pss_cons (ps_if (pt_not (pt_val (pe_call GR hr3 (by rfl) mR kR bR .nil pass0 (pa_cons (pv 1) pa_nil)))) (pss_one ps_never) pss_nil)
      (pss_cons (ps_expr (pe_call GM hr1 (by rfl) mM kM bM .nil pass0 (pa_cons pe_str (pa_cons (pe_glob (v := .int 600) (by rfl) hmost ⟨_, rfl⟩) (pa_cons (pv 0) pa_nil)))))
      (pss_one (ps_ret (pe_call GB hr2 (by rfl) mB kB bB .nil pass0 (pa_cons (pv 0) (pa_cons (pv 1) pa_nil))))))), ?_⟩
    refine ⟨_, rfl, _, rfl, by omega, ?_⟩
    refine ⟨_, rfl, a, b, xs, rows, rfl, R, h0, hm, fun H1 s1 => ⟨true, rfl, iteF ?_⟩⟩
    refine ⟨_, rfl, _, _, _, rfl, by omega, ?_⟩
    exact ⟨_, rfl, _, rfl, n, a, b, xs, rows, rfl, n0, n1, R.same s1, h0, hm, fun k H' s' => kN k _ (s1.trans s'), fun k H' l zs known s' => kS k H' l zs known (s1.trans s')⟩
/-- a Table of the rule g through rows, or None -/
def spFind (C : Addr) (g : Int → List Row → Int → Int) : Sp := fun vs H Q _ => ∃ (n : Nat) (a : Addr) (b : Bool) (xs : List V) (rows : List Row), vs = [.int n, .ref a] ∧ 0 < n ∧ n ≤ 600 ∧ RowsAt H b a xs rows ∧ 1 ≤ rows.length ∧ rows.length ≤ 60 ∧
  (¬ Kept n rows → ∀ H', Same H H' → Q .non H') ∧ (Kept n rows → ∀ (H' : Hp) (p : Addr), Same H H' → H p = none → TabAt C H' p (tab n (g n rows)) → (∀ p0 o, H p0 = some o → TabAt C (cut p0 H') p (tab n (g n rows))) → Q (.ref p) H')
theorem tab_snoc (i : Nat) (g : Int → Int) : vi (tab i g) ++ [V.int (g i)] = vi (tab (i + 1) g) := by
  unfold vi tab
  rw [List.range_succ, List.map_append, List.map_append]
  rfl
theorem scEarliest : FnScope ["count", "rows", "known", "days", "here", "at", "day"] ["count", "rows"] (defScope sEarliest) := ⟨rfl, rfl, rfl, by decide +kernel, rfl, by decide +kernel, by decide +kernel⟩
theorem ok_earliest {fW fI : Addr} {dW dI : FuncData} (F : Fun K "earliest_with" "earliest_with" sEarliest f fd)
    (GW : FnOk P w K mg base CX0 5 fW dW ["count", "rows"] spBrought) (kW : PySem.W.keepIn K (.ref fW) = true) (bW : Binds K dW ["count", "rows"] []) (mW : mg "wanted_rows" = some (.ref fW))
    (M : Mk K C fI) (GI : FnOk P w K mg base CX0 4 fI dI ["self", "days"] (spInit C)) (bI : Binds K dI ["self", "days"] []) (T : Txt K mg C) : FnOk P w K mg base CX0 6 f fd ["count", "rows"] (spFind C gr) := by
  have nd := scEarliest.nd
  refine F.ok scEarliest (fun vs H Q E h => ?_) (fun cdv A outer s H vs Q E hr h => ?_)
  · obtain ⟨n, a, b, xs, rows, rfl, _⟩ := h
    rfl
  · obtain ⟨n, a, b, xs, rows, rfl, n0, n1, R, h0, hm, kN, kS⟩ := h
    have hn : (0 : Int) < n := by omega
    have hne : rows ≠ [] := List.ne_nil_of_length_pos (by omega)
    refine ⟨_, pss_cons (ps_set (i := 2) nd rfl (.inl rfl) (pe_call GW hr (by rfl) mW kW bW .nil pass0 (pa_cons (pv 0) (pa_cons (pv 1) pa_nil))))
      (pss_cons (ps_if (pt_cmpR op_isN (pv 2) pe_non (nomark _)) (pss_one (ps_ret pe_non)) pss_nil)
      (pss_cons (ps_par (i := 3) (j := 4) (by rfl) nd rfl rfl (by decide) rfl rfl (pa_cons (pe_lst pa_nil) (pa_cons (pe_op op_sub (pe_ix ix_tup (pe_ix ix_list (pv 2) (pe_un un_neg pe_int) (fun _ _ => rfl)) pe_int (fun _ _ => rfl)) (pv 0)) pa_nil)) (by rfl))
      (pss_cons (ps_set (i := 5) nd rfl (.inl rfl) pe_int)
      (pss_cons (ps_for PassesOwn.never rfl (pi_range1 (by rfl) T.range (pa_cons (pv 0) pa_nil)) (pg_name (i := 6) nd rfl (.inl rfl))
        (pss_cons (ps_if (PW.pt (pw_and (pt_cmpR op_lt (pv 5) (pe_callB call_len_seq (by rfl) T.len boot_len (pa_cons (pv 2) pa_nil)) (nomark _)) (pw_and1 (pt_cmpR op_eq (pe_ix ix_tup (pe_ix ix_list (pv 2) (pv 5) (fun _ _ => rfl)) pe_int (fun _ _ => rfl)) (pv 6) (nomark _)))))
            (pss_one (ps_par (i := 4) (j := 5) (by rfl) nd rfl rfl (by decide) rfl rfl (pa_cons (pe_ix ix_tup (pe_ix ix_list (pv 2) (pv 5) (fun _ _ => rfl)) pe_int (fun _ _ => rfl)) (pa_cons (pe_op op_add (pv 5) pe_int) pa_nil)) (by rfl))) pss_nil)
          (pss_one (ps_expr (pe_bm PySem.F.plainAttrs_list PySem.F.slot_list_append PySem.F.type_list_append mt_append (pv 3) (pa_cons (pv 4) pa_nil))))))
      (pss_one (ps_ret (pe_make M GI hr (by rfl) T.mgC bI .nil pass0 (pa_cons (pv 3) pa_nil)))))))), ?_⟩
    refine ⟨_, rfl, _, rfl, n, a, b, xs, rows, rfl, n0, n1, R, h0, hm, fun k H1 s1 => ?_, fun k H1 l zs known s1 hl RZ KN => ?_⟩
    · -- no rule serves them
      refine ⟨_, rfl, rfl, _, rfl, ?_⟩
      refine if_t rfl ?_
      exact kN k _ s1
    · have hkl := KN.pos hne
      have hzl := RZ.len
      obtain ⟨t1, e1, g1⟩ := RZ.tup (show known.length - 1 < known.length by omega)
      have e1' : zs[zs.length - 1]? = some (.ref t1) := by
        rw [hzl]
        exact e1
      refine ⟨_, rfl, rfl, _, rfl, ?_⟩
      refine if_f (by intro z; cases z) ?_
      refine ⟨Nat.zero_le _, fun d nd' => ?_⟩
      have s2 := same_new (o := .lst []) nd'
      have hl2 := s2 _ _ hl
      have RZ2 := RZ.same s2
      refine ⟨_, rfl, 1, rfl, l, _, _, _, rfl, rfl, SqL.of hl2, atI_neg (by omega) e1', t1, _, _, _, rfl, rfl, SqT.of (s2 _ _ g1), atI_nat (j := 1) rfl, _, rfl, _, _, rfl, rfl, _, _, rfl, ?_⟩
      refine ⟨_, rfl, _, rfl, by omega, by omega, ?_⟩
      refine for_range (fun i σ H3 => ∃ (c : Nat) (y6 : Option V), σ = [some (.int n), some (.ref a), some (.ref l), some (.ref d), some (.int (if c = 0 then (at_ known (known.length - 1)).2 - n else (at_ known (c - 1)).2)), some (.int c), y6] ∧ Same H1 H3 ∧
        H3 d = some (.lst (vi (tab i (gr n rows)))) ∧ c ≤ known.length ∧ (∀ j, j < c → (at_ known j).1 < i) ∧ ∀ j, c ≤ j → j < known.length → (i : Int) ≤ (at_ known j).1) ⟨0, none, rfl, s2, upd_same, Nat.zero_le _, fun j hj => absurd hj (Nat.not_lt_zero _), fun j _ hj => (KN.lo hn (at_mem hj)).1⟩ (fun i σ H3 hi hP => ?_) fun σ H3 hP => ?_
      · obtain ⟨c, y6, rfl, s3, hd3, hc, lo, hi'⟩ := hP
        have hin : (i : Int) < n := by omega
        have hl3 := s3 _ _ hl
        have RZ3 := RZ.same s3
        have app : ∀ c' : Nat, c' ≤ known.length → (∀ j, j < c' → (at_ known j).1 ≤ i) → (∀ j, c' ≤ j → j < known.length → (i : Int) < (at_ known j).1) →
            vi (tab i (gr n rows)) ++ [V.int (if c' = 0 then (at_ known (known.length - 1)).2 - n else (at_ known (c' - 1)).2)] = vi (tab (i + 1) (gr n rows)) := fun c' h1 h2 h3 => by
          rw [fill_gr hn hne KN k h1 (by omega) hin h2 h3]
          exact tab_snoc i _
        refine ⟨_, rfl, _, rfl, l, _, rfl, .inl (SqL.of hl3), _, _, rfl, rfl, _, rfl, ?_⟩
        by_cases hcl : c < known.length
        · refine if_t (show (c : Int) < (zs.length : Int) by omega) ?_
          obtain ⟨t2, e2, g2⟩ := RZ3.tup hcl
          refine ⟨_, rfl, _, rfl, l, _, _, _, rfl, rfl, SqL.of hl3, atI_nat e2, t2, _, _, _, rfl, rfl, SqT.of g2, atI_nat (j := 0) rfl, _, rfl, rfl, _, rfl, ?_⟩
          by_cases hq : (at_ known c).1 = i
          · refine if_t (by rw [hq, Int.zero_add]) ?_
            refine ⟨_, rfl, _, rfl, l, _, _, _, rfl, rfl, SqL.of hl3, atI_nat e2, t2, _, _, _, rfl, rfl, SqT.of g2, atI_nat (j := 1) rfl, _, rfl, _, _, rfl, rfl, _, _, rfl, ?_⟩
            have lo' : ∀ j, j < c + 1 → (at_ known j).1 ≤ i := fun j hj => by
              by_cases e : j = c
              · rw [e]
                omega
              · have := lo j (by omega)
                omega
            have hi2 : ∀ j, c + 1 ≤ j → j < known.length → (i : Int) < (at_ known j).1 := fun j h1 h2 => by
              have := KN.lt (show c < j by omega) h2
              omega
            have ap := app (c + 1) (by omega) lo' hi2
            rw [if_neg (Nat.succ_ne_zero c), Nat.add_sub_cancel] at ap
            refine ⟨_, rfl, .inl ⟨rfl, _, SqL.of hd3⟩, _, rfl, d, _, _, rfl, rfl, hd3, ?_, ?_⟩
            · rw [List.length_map, tab_len]
              exact small1000 (by omega)
            · refine ⟨c + 1, some (.int (0 + (i : Int))), ?_, same_off s3 nd', ?_, by omega, fun j hj => by have := lo' j hj; omega, fun j h1 h2 => by have := hi2 j h1 h2; omega⟩
              · rw [if_neg (Nat.succ_ne_zero c), Nat.add_sub_cancel]
                rfl
              · rw [upd_same, ap]
          · refine if_f (fun z => hq (by have := V.int.inj z; omega)) ?_
            have hi2 : ∀ j, c ≤ j → j < known.length → (i : Int) < (at_ known j).1 := fun j h1 h2 => by
              have a := hi' j h1 h2
              by_cases e : j = c
              · rw [e] at a ⊢
                omega
              · have := KN.lt (show c < j by omega) h2
                have := hi' c (Nat.le_refl _) hcl
                omega
            have ap := app c hc (fun j hj => by have := lo j hj; omega) hi2
            refine ⟨_, rfl, .inl ⟨rfl, _, SqL.of hd3⟩, _, rfl, d, _, _, rfl, rfl, hd3, ?_, ?_⟩
            · rw [List.length_map, tab_len]
              exact small1000 (by omega)
            · refine ⟨c, _, rfl, same_off s3 nd', ?_, hc, fun j hj => by have := lo j hj; omega, fun j h1 h2 => by have := hi2 j h1 h2; omega⟩
              rw [upd_same, ap]
        · refine if_f (show ¬ (c : Int) < (zs.length : Int) by omega) ?_
          refine iteF ?_
          have ap := app c hc (fun j hj => by have := lo j hj; omega) (fun j h1 h2 => absurd h2 (by omega))
          refine ⟨_, rfl, .inl ⟨rfl, _, SqL.of hd3⟩, _, rfl, d, _, _, rfl, rfl, hd3, ?_, ?_⟩
          · rw [List.length_map, tab_len]
            exact small1000 (by omega)
          · refine ⟨c, _, rfl, same_off s3 nd', ?_, hc, fun j hj => by have := lo j hj; omega, fun j h1 h2 => absurd h2 (by omega)⟩
            rw [upd_same, ap]
      · obtain ⟨c, y6, rfl, s3, hd3, _⟩ := hP
        have hd3 : H3 d = some (.lst (vi (tab n (gr n rows)))) := hd3
        refine ⟨_, rfl, fun x dx nx ndx nex => ?_⟩
        have sn : ∀ b o, H3 b = some o → (upd (upd H3 dx (.own x)) x (.ins C dx [])) b = some o := fun b o e => by
          rw [upd_ne (ne_of_none e nx), upd_ne (ne_of_none e ndx)]
          exact e
        refine ⟨x, dx, d, _, rfl, upd_same, sn _ _ hd3, tab_is n0 n1 (gr_rule hn hne), fun H4 tb tc kp => ⟨rfl, ?_⟩⟩
        have s4 : Same H3 H4 := Same.made nx ndx kp
        exact kS k H4 x ((s1.trans s3).trans s4) (Same.free (s1.trans s3) nx) tb fun p0 o e => tc p0 o (sn _ _ ((s1.trans s3) _ _ e)) (ne_of_none ((s1.trans s3) _ _ e) nx)
end
end K16
set_option maxRecDepth 100000
set_option maxHeartbeats 4000000
/-! The latest rule. -/
namespace K16
open PySem PySem.Spec PyProof.Rows L2
/-- from the back: the days told so far -/
def back (n : Nat) (g : Int → Int) (i : Nat) : List Int := (List.range i).map fun (j : Nat) => g ((n : Int) - 1 - j)
theorem back_snoc (n i : Nat) (g : Int → Int) : vi (back n g i) ++ [V.int (g ((n : Int) - 1 - i))] = vi (back n g (i + 1)) := by
  unfold vi back
  rw [List.range_succ, List.map_append, List.map_append]
  rfl
theorem back_len (n i : Nat) (g : Int → Int) : (back n g i).length = i := by simp [back]
theorem back_rev (n : Nat) (g : Int → Int) : (back n g n).reverse = tab n g := by
  refine List.ext_getElem? fun i => ?_
  by_cases h : i < n
  · rw [tab_get h, List.getElem?_reverse (by rw [back_len]; exact h), back_len]
    unfold back
    rw [List.getElem?_map, List.getElem?_range (by omega)]
    show some (g ((n : Int) - 1 - ((n - 1 - i : Nat) : Int))) = some (g i)
    rw [show (n : Int) - 1 - ((n - 1 - i : Nat) : Int) = i by omega]
  · rw [List.getElem?_eq_none (by rw [List.length_reverse, back_len]; omega), List.getElem?_eq_none (by rw [tab_len]; omega)]
section
variable {P : Program} {w : World} {K : PySem.W.Frag} {mg : Str → Option Value} {base : Heap} {C f : Addr} {fd : FuncData}
theorem scLatest : FnScope ["count", "rows", "known", "days", "here", "at", "day"] ["count", "rows"] (defScope sLatest) := ⟨rfl, rfl, rfl, by decide +kernel, rfl, by decide +kernel, by decide +kernel⟩
theorem ok_latest {fW fI : Addr} {dW dI : FuncData} (F : Fun K "latest_with" "latest_with" sLatest f fd)
    (GW : FnOk P w K mg base CX0 5 fW dW ["count", "rows"] spBrought) (kW : PySem.W.keepIn K (.ref fW) = true) (bW : Binds K dW ["count", "rows"] []) (mW : mg "wanted_rows" = some (.ref fW))
    (M : Mk K C fI) (GI : FnOk P w K mg base CX0 4 fI dI ["self", "days"] (spInit C)) (bI : Binds K dI ["self", "days"] []) (T : Txt K mg C) : FnOk P w K mg base CX0 6 f fd ["count", "rows"] (spFind C le) := by
  have nd := scLatest.nd
  refine F.ok scLatest (fun vs H Q E h => ?_) (fun cdv A outer s H vs Q E hr h => ?_)
  · obtain ⟨n, a, b, xs, rows, rfl, _⟩ := h
    rfl
  · obtain ⟨n, a, b, xs, rows, rfl, n0, n1, R, h0, hm, kN, kS⟩ := h
    have hn : (0 : Int) < n := by omega
    have hne : rows ≠ [] := List.ne_nil_of_length_pos (by omega)
    refine ⟨_, pss_cons (ps_set (i := 2) nd rfl (.inl rfl) (pe_call GW hr (by rfl) mW kW bW .nil pass0 (pa_cons (pv 0) (pa_cons (pv 1) pa_nil))))
      (pss_cons (ps_if (pt_cmpR op_isN (pv 2) pe_non (nomark _)) (pss_one (ps_ret pe_non)) pss_nil)
      (pss_cons (ps_par (i := 3) (j := 4) (by rfl) nd rfl rfl (by decide) rfl rfl (pa_cons (pe_lst pa_nil) (pa_cons (pe_op op_add (pe_ix ix_tup (pe_ix ix_list (pv 2) pe_int (fun _ _ => rfl)) pe_int (fun _ _ => rfl)) (pv 0)) pa_nil)) (by rfl))
      (pss_cons (ps_set (i := 5) nd rfl (.inl rfl) (pe_op op_sub (pe_callB call_len_seq (by rfl) T.len boot_len (pa_cons (pv 2) pa_nil)) pe_int))
      (pss_cons (ps_for PassesOwn.never rfl (pi_range3 (by rfl) T.range (pa_cons (pe_op op_sub (pv 0) pe_int) (pa_cons (pe_un un_neg pe_int) (pa_cons (pe_un un_neg pe_int) pa_nil)))) (pg_name (i := 6) nd rfl (.inl rfl))
        (pss_cons (ps_if (PW.pt (pw_and (pt_cmpR op_ge (pv 5) pe_int (nomark _)) (pw_and1 (pt_cmpR op_eq (pe_ix ix_tup (pe_ix ix_list (pv 2) (pv 5) (fun _ _ => rfl)) pe_int (fun _ _ => rfl)) (pv 6) (nomark _)))))
            (pss_one (ps_par (i := 4) (j := 5) (by rfl) nd rfl rfl (by decide) rfl rfl (pa_cons (pe_ix ix_tup (pe_ix ix_list (pv 2) (pv 5) (fun _ _ => rfl)) pe_int (fun _ _ => rfl)) (pa_cons (pe_op op_sub (pv 5) pe_int) pa_nil)) (by rfl))) pss_nil)
          (pss_one (ps_expr (pe_bm PySem.F.plainAttrs_list PySem.F.slot_list_append PySem.F.type_list_append mt_append (pv 3) (pa_cons (pv 4) pa_nil))))))
      (pss_one (ps_ret (pe_make M GI hr (by rfl) T.mgC bI .nil pass0 (pa_cons (pe_revL (pv 3)) pa_nil)))))))), ?_⟩
    refine ⟨_, rfl, _, rfl, n, a, b, xs, rows, rfl, n0, n1, R, h0, hm, fun k H1 s1 => ?_, fun k H1 l zs known s1 hl RZ KN => ?_⟩
    · refine ⟨_, rfl, rfl, _, rfl, ?_⟩
      refine if_t rfl ?_
      exact kN k _ s1
    · have hkl := KN.pos hne
      have hzl := RZ.len
      have hk60 : known.length ≤ 60 ∨ 60 < known.length := by omega
      obtain ⟨t1, e1, g1⟩ := RZ.tup hkl
      refine ⟨_, rfl, rfl, _, rfl, ?_⟩
      refine if_f (by intro z; cases z) ?_
      refine ⟨Nat.zero_le _, fun d nd' => ?_⟩
      have s2 := same_new (o := .lst []) nd'
      have hl2 := s2 _ _ hl
      refine ⟨_, rfl, l, _, _, _, rfl, rfl, SqL.of hl2, atI_nat (j := 0) e1, t1, _, _, _, rfl, rfl, SqT.of (s2 _ _ g1), atI_nat (j := 1) rfl, _, rfl, _, _, rfl, rfl, _, _, rfl, ?_⟩
      refine ⟨_, rfl, l, _, rfl, .inl (SqL.of hl2), _, _, rfl, rfl, ?_⟩
      refine ⟨_, rfl, _, _, rfl, rfl, 1, rfl, 1, rfl, _, _, _, n, rfl, ?_, ?_⟩
      · have q := RgC.neg (i := (n : Int) - 1) (j := -1) (by omega) (by omega) (by omega) (by omega)
        rw [show ((n : Int) - 1 - -1).toNat = n by omega] at q
        exact q
      refine for_rangeC (fun i σ H3 => ∃ (c : Nat) (y6 : Option V), σ = [some (.int n), some (.ref a), some (.ref l), some (.ref d), some (.int (if c = known.length then (at_ known 0).2 + n else (at_ known c).2)), some (.int ((c : Int) - 1)), y6] ∧ Same H1 H3 ∧
        H3 d = some (.lst (vi (back n (le n rows) i))) ∧ c ≤ known.length ∧ (∀ j, j < c → (at_ known j).1 ≤ (n : Int) - 1 - i) ∧ ∀ j, c ≤ j → j < known.length → (n : Int) - 1 - i < (at_ known j).1)
        ⟨known.length, none, ?_, s2, upd_same, Nat.le_refl _, fun j hj => by have := (KN.lo hn (at_mem hj)).2; omega, fun j h1 h2 => absurd h2 (by omega)⟩ (fun i σ H3 hi hP => ?_) fun σ H3 hP => ?_
      · rw [if_pos rfl, ← hzl]
        rfl
      · obtain ⟨c, y6, rfl, s3, hd3, hc, lo, hi'⟩ := hP
        have hl3 := s3 _ _ hl
        have RZ3 := RZ.same s3
        have day : (n : Int) - 1 + (i : Int) * -1 = (n : Int) - 1 - i := by omega
        have app : ∀ c' : Nat, c' ≤ known.length → (∀ j, j < c' → (at_ known j).1 < (n : Int) - 1 - i) → (∀ j, c' ≤ j → j < known.length → (n : Int) - 1 - i ≤ (at_ known j).1) →
            vi (back n (le n rows) i) ++ [V.int (if c' = known.length then (at_ known 0).2 + n else (at_ known c').2)] = vi (back n (le n rows) (i + 1)) := fun c' h1 h2 h3 => by
          rw [fill_le hn hne KN k h1 (by omega) (by omega) h2 h3]
          exact back_snoc n i _
        refine ⟨_, rfl, _, _, rfl, rfl, _, rfl, ?_⟩
        by_cases hcl : 0 < c
        · refine if_t (show (0 : Int) ≤ (c : Int) - 1 by omega) ?_
          obtain ⟨t2, e2, g2⟩ := RZ3.tup (show c - 1 < known.length by omega)
          refine ⟨_, rfl, _, rfl, l, _, _, _, rfl, rfl, SqL.of hl3, at_of (j := c - 1) (by omega) e2, t2, _, _, _, rfl, rfl, SqT.of g2, atI_nat (j := 0) rfl, _, rfl, rfl, _, rfl, ?_⟩
          by_cases hq : (at_ known (c - 1)).1 = (n : Int) - 1 - i
          · refine if_t (by rw [hq, day]) ?_
            refine ⟨_, rfl, _, rfl, l, _, _, _, rfl, rfl, SqL.of hl3, at_of (j := c - 1) (by omega) e2, t2, _, _, _, rfl, rfl, SqT.of g2, atI_nat (j := 1) rfl, _, rfl, _, _, rfl, rfl, _, _, rfl, ?_⟩
            have lo' : ∀ j, j < c - 1 → (at_ known j).1 < (n : Int) - 1 - i := fun j hj => by
              have := KN.lt (show j < c - 1 by omega) (show c - 1 < known.length by omega)
              omega
            have hi2 : ∀ j, c - 1 ≤ j → j < known.length → (n : Int) - 1 - i ≤ (at_ known j).1 := fun j h1 h2 => by
              by_cases e : j = c - 1
              · rw [e]
                omega
              · have := hi' j (by omega) h2
                omega
            have ap := app (c - 1) (by omega) lo' hi2
            rw [if_neg (show ¬ c - 1 = known.length by omega)] at ap
            refine ⟨_, rfl, .inl ⟨rfl, _, SqL.of hd3⟩, _, rfl, d, _, _, rfl, rfl, hd3, ?_, ?_⟩
            · rw [List.length_map, back_len]
              exact small1000 (by omega)
            · refine ⟨c - 1, some (.int ((n : Int) - 1 + (i : Nat) * -1)), ?_, same_off s3 nd', ?_, by omega, fun j hj => by have := lo' j hj; omega, fun j h1 h2 => by have := hi2 j h1 h2; omega⟩
              · rw [if_neg (show ¬ c - 1 = known.length by omega), show ((c - 1 : Nat) : Int) - 1 = (c : Int) - 1 - 1 by omega]
                rfl
              · rw [upd_same, ap]
          · refine if_f (fun z => hq (by have := V.int.inj z; omega)) ?_
            have lo' : ∀ j, j < c → (at_ known j).1 < (n : Int) - 1 - i := fun j hj => by
              have a := lo j hj
              by_cases e : j = c - 1
              · rw [e] at a ⊢
                omega
              · have := KN.lt (show j < c - 1 by omega) (show c - 1 < known.length by omega)
                have := lo (c - 1) (by omega)
                omega
            have ap := app c hc lo' (fun j h1 h2 => by have := hi' j h1 h2; omega)
            refine ⟨_, rfl, .inl ⟨rfl, _, SqL.of hd3⟩, _, rfl, d, _, _, rfl, rfl, hd3, ?_, ?_⟩
            · rw [List.length_map, back_len]
              exact small1000 (by omega)
            · refine ⟨c, _, rfl, same_off s3 nd', ?_, hc, fun j hj => by have := lo' j hj; omega, fun j h1 h2 => by have := hi' j h1 h2; omega⟩
              rw [upd_same, ap]
        · refine if_f (show ¬ (0 : Int) ≤ (c : Int) - 1 by omega) ?_
          refine iteF ?_
          have ap := app c hc (fun j hj => absurd hj (by omega)) (fun j h1 h2 => by have := hi' j h1 h2; omega)
          refine ⟨_, rfl, .inl ⟨rfl, _, SqL.of hd3⟩, _, rfl, d, _, _, rfl, rfl, hd3, ?_, ?_⟩
          · rw [List.length_map, back_len]
            exact small1000 (by omega)
          · refine ⟨c, _, rfl, same_off s3 nd', ?_, hc, fun j hj => absurd hj (by omega), fun j h1 h2 => by have := hi' j h1 h2; omega⟩
            rw [upd_same, ap]
      · obtain ⟨c, y6, rfl, s3, hd3, _⟩ := hP
        refine ⟨_, rfl, d, _, rfl, SqL.of hd3, fun e ne => ?_⟩
        have s4 := same_new (o := .lst (vi (back n (le n rows) n)).reverse) ne
        have s13 := (s1.trans s3).trans s4
        intro x dx nx ndx nex
        have sn : ∀ b o, (upd H3 e (.lst (vi (back n (le n rows) n)).reverse)) b = some o → (upd (upd (upd H3 e (.lst (vi (back n (le n rows) n)).reverse)) dx (.own x)) x (.ins C dx [])) b = some o := fun b o q => by
          rw [upd_ne (ne_of_none q nx), upd_ne (ne_of_none q ndx)]
          exact q
        refine ⟨x, dx, e, tab n (le n rows), rfl, upd_same, sn _ _ ?_, tab_is n0 n1 (le_rule hn hne), fun H4 tb tc kp => ⟨rfl, ?_⟩⟩
        · rw [upd_same, ← back_rev]
          unfold vi
          rw [List.map_reverse]
        · have s5 : Same _ H4 := Same.made nx ndx kp
          exact kS k H4 x (s13.trans s5) (Same.free s13 nx) tb fun p0 o e => tc p0 o (sn _ _ (s13 _ _ e)) (ne_of_none (s13 _ _ e) nx)
end
end K16
set_option maxRecDepth 100000
set_option maxHeartbeats 4000000
/-! The law's own draws and reckoning. -/
namespace K16
open PySem PySem.Spec PyProof.Rows L2
/-- a pot of digits -/
def PotAt (H : Hp) (p : Addr) : Prop := ∃ x y : Int, H p = some (.lst [.int x, .int y]) ∧ 0 ≤ x ∧ 0 ≤ y ∧ y ≤ 2147483563
/-- all but the pot is kept, and the pot is one -/
structure Kp (p : Addr) (H H' : Hp) : Prop where
  same : Same (cut p H) (cut p H')
  pot : PotAt H' p
theorem PotAt.same {H H' : Hp} {p : Addr} (h : PotAt H p) (s : Same H H') : PotAt H' p := by
  obtain ⟨x, y, e, r⟩ := h
  exact ⟨x, y, s _ _ e, r⟩
theorem Kp.trans {p : Addr} {H H1 H2 : Hp} (a : Kp p H H1) (b : Kp p H1 H2) : Kp p H H2 := ⟨a.same.trans b.same, b.pot⟩
theorem Kp.of {p : Addr} {H H' : Hp} (h : PotAt H p) (s : Same H H') : Kp p H H' := ⟨same_cut s, h.same s⟩
theorem PotAt.ne {H : Hp} {p q : Addr} (h : PotAt H p) (n : H q = none) : q ≠ p := by
  obtain ⟨x, y, e, _⟩ := h
  exact (ne_of_none e n).symm
/-- what stood before the pot was made is kept -/
theorem Kp.out {p : Addr} {H H1 H' : Hp} (s : Same H H1) (n : H p = none) (k : Kp p H1 H') : Same H H' := fun b o e => by
  have nb : b ≠ p := ne_of_none e n
  have q := k.same b o (by rw [cut_ne nb]; exact s _ _ e)
  exact (cut_has q).2
section
variable {P : Program} {w : World} {K : PySem.W.Frag} {mg : Str → Option Value} {base : Heap} {C f : Addr} {fd : FuncData}
def spPot (K : PySem.W.Frag) : Sp := fun vs H Q _ => ∃ (a : Addr) (ns : List Int) (k : Nat), vs = [.ref a, .int k] ∧ SqL K H a (ns.map V.int) ∧ k < 3 ∧ ∀ (p : Addr) (H' : Hp), Same H H' → H p = none → PotAt H' p → Q (.ref p) H'
theorem scPot : FnScope ["_law_script", "_law_k", "_law_cell"] ["_law_script", "_law_k"] (defScope sPot) := ⟨rfl, rfl, rfl, by decide +kernel, rfl, by decide +kernel, by decide +kernel⟩
theorem ok_pot (F : Fun K "_law_pot" "_law_pot" sPot f fd) (T : Txt K mg C) : FnOk P w K mg base CX0 1 f fd ["_law_script", "_law_k"] (spPot K) := by
  have nd := scPot.nd
  refine F.ok scPot (fun vs H Q E h => ?_) (fun cdv A outer s H vs Q E hr h => ?_)
  · obtain ⟨a, ns, k, rfl, _⟩ := h
    rfl
  · obtain ⟨a, ns, k, rfl, hS, hk, q⟩ := h
    refine ⟨_, pss_cons (ps_set (i := 2) nd rfl (.inl rfl) (pe_ifExp (pt_cmpR op_lt (pv 1) (pe_callB call_len_seq (by rfl) T.len boot_len (pa_cons (pv 0) pa_nil)) (nomark _))
        (pe_callB call_abs (by rfl) T.abs boot_abs (pa_cons (pe_ix ix_list (pv 0) (pv 1) (fun _ _ => rfl)) pa_nil)) (pe_op op_add (pe_op op_mul pe_int (pv 1)) pe_int)))
      (pss_one (ps_ret (pe_lst (pa_cons (pe_callB (call_max2 rfl) (by rfl) T.max boot_max (pa_cons pe_int (pa_cons (pe_op op_sub (pv 2) (pe_op op_pow pe_int pe_int)) pa_nil)))
        (pa_cons (pe_op op_add (pe_op op_mod (pe_callTy call_int1 (by rfl) T.int boot_int (pa_cons (pe_op op_add (pe_op op_add (pe_op op_mul (pe_op op_mod (pe_callTy call_int1 (by rfl) T.int boot_int (pa_cons (pv 2) pa_nil)) pe_int) pe_int) (pe_op op_mul pe_int (pv 1))) pe_int) pa_nil)) pe_int) pe_int) pa_nil))))), ?_⟩
    have rest : ∀ c : Int, 0 ≤ c → ∀ (p : Addr), H p = none → PotAt (upd H p (.lst [.int (if c - 10 ^ 18 > 0 then c - 10 ^ 18 else 0), .int ((c % 2147483489 * 40093 + 6067 * k + 59) % 2147483563 + 1)])) p := fun c hc p np => by
      refine ⟨_, _, upd_same, by split <;> omega, ?_, ?_⟩
      · have := Int.emod_nonneg (c % 2147483489 * 40093 + 6067 * k + 59) (show (2147483563 : Int) ≠ 0 by decide)
        omega
      · have := Int.emod_lt_of_pos (c % 2147483489 * 40093 + 6067 * k + 59) (show (0 : Int) < 2147483563 by decide)
        omega
    have tail : ∀ c : Int, 0 ≤ c → ∀ D : Ends, D.rt = Q → (tRet (tLst (tCons (tCB (fun xs H Q => ∃ i j, xs = [.int i, .int j] ∧ Q (.int (if j > i then j else i)) H) (tCons (tC (.int 0)) (tCons (tOp (rI0 fun i j => .int (i - j)) (tVar 2) (tOp (rI CPow fun i j => .int (i ^ j.toNat)) (tC (.int 10)) (tC (.int 18)))) tNil)))
        (tCons (tOp (rI0 fun i j => .int (i + j)) (tOp (rI (fun _ j => 0 < j) fun i j => .int (i % j)) (tCB (fun xs H Q => (∃ i, xs = [.int i] ∧ Q (.int i) H) ∨ ∃ k, xs = [.bl k] ∧ Q (.int (if k then 1 else 0)) H) (tCons (tOp (rI0 fun i j => .int (i + j)) (tOp (rI0 fun i j => .int (i + j)) (tOp (rI CMul fun i j => .int (i * j)) (tOp (rI (fun _ j => 0 < j) fun i j => .int (i % j))
          (tCB (fun xs H Q => (∃ i, xs = [.int i] ∧ Q (.int i) H) ∨ ∃ k, xs = [.bl k] ∧ Q (.int (if k then 1 else 0)) H) (tCons (tVar 2) tNil)) (tC (.int 2147483489))) (tC (.int 40093))) (tOp (rI CMul fun i j => .int (i * j)) (tC (.int 6067)) (tVar 1))) (tC (.int 59))) tNil)) (tC (.int 2147483563))) (tC (.int 1))) tNil)))) D [some (.ref a), some (.int k), some (.int c)] H := fun c hc D hD => by
      have m0 := Int.emod_nonneg c (show (2147483489 : Int) ≠ 0 by decide)
      have m1 := Int.emod_lt_of_pos c (show (0 : Int) < 2147483489 by decide)
      refine ⟨_, rfl, _, _, rfl, rfl, ⟨by decide, by decide, by decide⟩, _, _, rfl, rfl, _, _, rfl, ?_⟩
      refine ⟨_, rfl, .inl ⟨_, rfl, _, _, rfl, rfl, (by show (0 : Int) < 2147483489; decide), _, _, rfl, rfl, .inr ⟨by decide, by decide⟩, _, rfl, _, _, rfl, rfl, .inl ⟨by decide, by decide⟩, _, _, rfl, rfl, _, _, rfl, rfl, .inl ⟨_, rfl, _, _, rfl, rfl, (by show (0 : Int) < 2147483563; decide), _, _, rfl, rfl, ?_⟩⟩⟩
      refine ⟨(by show 2 ≤ sizeLine; decide), fun p np => ?_⟩
      rw [hD]
      exact q p _ (same_new np) np (rest c hc p np)
    refine ⟨_, rfl, _, rfl, a, _, rfl, .inl hS, _, _, rfl, rfl, _, rfl, ?_⟩
    by_cases hkl : k < ns.length
    · refine if_t (show (k : Int) < ((ns.map V.int).length : Int) by rw [List.length_map]; omega) ?_
      refine ⟨_, rfl, _, rfl, a, _, _, _, rfl, rfl, hS, vi_atI (i := k) rfl hkl, _, rfl, ?_⟩
      exact tail _ (by split <;> omega) _ rfl
    · refine if_f (show ¬ (k : Int) < ((ns.map V.int).length : Int) by rw [List.length_map]; omega) ?_
      refine ⟨_, rfl, _, _, rfl, rfl, .inl ⟨by decide, by decide⟩, _, _, rfl, rfl, ?_⟩
      exact tail _ (by omega) _ rfl
/-! ### one digit -/
def spDraw : Sp := fun vs H Q _ => ∃ (p : Addr) (n : Int), vs = [.ref p, .int n] ∧ 0 < n ∧ n < 1073741824 ∧ PotAt H p ∧ ∀ (d : Int) (H' : Hp), 0 ≤ d → d < n → Kp p H H' → Q (.int d) H'
theorem scDraw : FnScope ["_law_pot_here", "_law_size", "_law_digit"] ["_law_pot_here", "_law_size"] (defScope sDraw) := ⟨rfl, rfl, rfl, by decide +kernel, rfl, by decide +kernel, by decide +kernel⟩
theorem ok_draw (F : Fun K "_law_draw" "_law_draw" sDraw f fd) (T : Txt K mg C) : FnOk P w K mg base CX0 1 f fd ["_law_pot_here", "_law_size"] spDraw := by
  have nd := scDraw.nd
  refine F.ok scDraw (fun vs H Q E h => ?_) (fun cdv A outer s H vs Q E hr h => ?_)
  · obtain ⟨p, n, rfl, _⟩ := h
    rfl
  · obtain ⟨p, n, rfl, n0, n1, ⟨x, y, hp, hx, hy, hy2⟩, q⟩ := h
    refine ⟨_, pss_cons (ps_if (pt_cmpR op_gt (pe_ix ix_list (pv 0) pe_int (fun _ _ => rfl)) pe_int (nomark _))
        (pss_cons (ps_asg (pe_callB call_divmod (by rfl) T.divmod boot_divmod (pa_cons (pe_ix ix_list (pv 0) pe_int (fun _ _ => rfl)) (pa_cons (pv 1) pa_nil))) (pg_tup rfl (pgs_cons (pg_sub (pv 0) pe_int set_list) (pgs_cons (pg_name (i := 2) nd rfl (.inl rfl)) pgs_nil))))
        (pss_one (ps_ret (pv 2)))) pss_nil)
      (pss_cons (ps_asg (pe_op op_mod (pe_callTy call_int1 (by rfl) T.int boot_int (pa_cons (pe_op op_add (pe_op op_mul (pe_ix ix_list (pv 0) pe_int (fun _ _ => rfl)) pe_int) pe_int) pa_nil)) pe_int) (pg_sub (pv 0) pe_int set_list))
      (pss_one (ps_ret (pe_op op_mod (pe_callTy call_int1 (by rfl) T.int boot_int (pa_cons (pe_op op_fdiv (pe_op op_mod (pe_callTy call_int1 (by rfl) T.int boot_int (pa_cons (pe_op op_mul (pe_ix ix_list (pv 0) pe_int (fun _ _ => rfl)) (pe_ix ix_list (pv 0) pe_int (fun _ _ => rfl))) pa_nil)) pe_int) pe_int) pa_nil)) (pv 1))))), ?_⟩
    refine ⟨_, rfl, p, _, _, _, rfl, rfl, SqL.of hp, atI_nat (j := 0) rfl, _, _, rfl, rfl, _, rfl, ?_⟩
    by_cases h0 : 0 < x
    · refine if_t h0 ?_
      refine ⟨_, rfl, p, _, _, _, rfl, rfl, SqL.of hp, atI_nat (j := 0) rfl, _, rfl, _, _, rfl, ⟨n0, n1⟩, fun t nt => ?_⟩
      have s1 := same_new (o := .tup [.int (x / n), .int (x % n)]) nt
      refine ⟨t, _, rfl, SqT.of upd_same, rfl, _, _, rfl, ?_⟩
      refine ⟨_, rfl, p, _, _, 0, rfl, rfl, s1 _ _ hp, rfl, _, _, rfl, ?_⟩
      refine ⟨rfl, _, rfl, ?_⟩
      refine q (x % n) _ (Int.emod_nonneg _ (by omega)) (Int.emod_lt_of_pos _ n0) ⟨(same_cut s1).trans cut_upd, x / n, y, upd_same, Int.ediv_nonneg hx (by omega), hy, hy2⟩
    · refine if_f h0 ?_
      refine ⟨_, rfl, p, _, _, _, rfl, rfl, SqL.of hp, atI_nat (j := 1) rfl, _, _, rfl, rfl, .inr ⟨by decide, by decide⟩, _, _, rfl, rfl, .inl ⟨_, rfl, _, _, rfl, rfl, (by show (0 : Int) < 2147483563; decide), ?_⟩⟩
      have z0 := Int.emod_nonneg (y * 39439 + 30071) (show (2147483563 : Int) ≠ 0 by decide)
      have z1 := Int.emod_lt_of_pos (y * 39439 + 30071) (show (0 : Int) < 2147483563 by decide)
      refine ⟨_, rfl, p, _, _, 1, rfl, rfl, hp, rfl, ?_⟩
      have hp2 : upd H p (.lst ([V.int x, V.int y].set 1 (.int ((y * 39439 + 30071) % 2147483563)))) p = some (.lst [.int x, .int ((y * 39439 + 30071) % 2147483563)]) := upd_same
      refine ⟨_, rfl, p, _, _, _, rfl, rfl, SqL.of hp2, atI_nat (j := 1) rfl, _, rfl, p, _, _, _, rfl, rfl, SqL.of hp2, atI_nat (j := 1) rfl, _, _, rfl, rfl, .inl ⟨by omega, by omega⟩, .inl ⟨_, rfl, ?_⟩⟩
      refine ⟨_, _, rfl, rfl, (by show (0 : Int) < 2147483489; decide), _, _, rfl, rfl, ⟨by decide, by decide⟩, .inl ⟨_, rfl, _, rfl, _, _, rfl, rfl, n0, ?_⟩⟩
      exact q _ _ (Int.emod_nonneg _ (by omega)) (Int.emod_lt_of_pos _ n0) ⟨cut_upd, x, _, upd_same, hx, z0, by omega⟩
/-! ### one of some -/
def spPick : Sp := fun vs H Q _ => ∃ (p a : Addr) (xs : List Int), vs = [.ref p, .ref a] ∧ PotAt H p ∧ cut p H a = some (.lst (vi xs)) ∧ 0 < xs.length ∧ xs.length ≤ 1000 ∧ ∀ (i : Nat) (H' : Hp), i < xs.length → Kp p H H' → Q (.int (xs.getD i 0)) H'
theorem scPick : FnScope ["_law_pot_here", "_law_some"] ["_law_pot_here", "_law_some"] (defScope sPick) := ⟨rfl, rfl, rfl, by decide +kernel, rfl, by decide +kernel, by decide +kernel⟩
theorem ok_pick {fD : Addr} {dD : FuncData} (F : Fun K "_law_pick" "_law_pick" sPick f fd) (GD : FnOk P w K mg base CX0 1 fD dD ["_law_pot_here", "_law_size"] spDraw) (kD : PySem.W.keepIn K (.ref fD) = true) (bD : Binds K dD ["_law_pot_here", "_law_size"] []) (mD : mg "_law_draw" = some (.ref fD))
    (T : Txt K mg C) : FnOk P w K mg base CX0 2 f fd ["_law_pot_here", "_law_some"] spPick := by
  refine F.ok scPick (fun vs H Q E h => ?_) (fun cdv A outer s H vs Q E hr h => ?_)
  · obtain ⟨p, a, xs, rfl, _⟩ := h
    rfl
  · obtain ⟨p, a, xs, rfl, hp, ha, h0, h1, q⟩ := h
    refine ⟨_, pss_one (ps_ret (pe_ix ix_list (pv 1) (pe_call GD hr (by rfl) mD kD bD .nil pass0 (pa_cons (pv 0) (pa_cons (pe_callB call_len_seq (by rfl) T.len boot_len (pa_cons (pv 1) pa_nil)) pa_nil))) (fun _ _ => rfl))), ?_⟩
    have ha' := (cut_has ha).2
    refine ⟨_, rfl, _, rfl, _, rfl, a, _, rfl, .inl (SqL.of ha'), p, _, rfl, by rw [List.length_map]; omega, by rw [List.length_map]; omega, hp, fun d H1 d0 d1 k1 => ?_⟩
    rw [List.length_map] at d1
    have ha1 := (cut_has (k1.same _ _ ha)).2
    refine ⟨a, _, _, _, rfl, rfl, SqL.of ha1, vi_atI (i := d.toNat) (by omega) (by omega), ?_⟩
    exact q _ _ (by omega) k1
end
end K16
set_option maxRecDepth 100000
set_option maxHeartbeats 4000000
/-! The law's hidden rule, its own reckoning. -/
namespace K16
open PySem PySem.Spec PyProof.Rows L2
theorem getD_mem {l : List Int} {i : Nat} (h : i < l.length) : l.getD i 0 ∈ l := by
  rw [List.getD_eq_getElem?_getD, List.getElem?_eq_getElem h]
  exact List.getElem_mem h
theorem getD_snoc {l : List Int} {x : Int} (i : Nat) : (l ++ [x]).getD i 0 = if i < l.length then l.getD i 0 else if i = l.length then x else 0 := by
  rw [List.getD_eq_getElem?_getD, List.getD_eq_getElem?_getD]
  by_cases h : i < l.length
  · rw [if_pos h, List.getElem?_append_left h]
  · rw [if_neg h, List.getElem?_append_right (by omega)]
    by_cases e : i = l.length
    · rw [if_pos e, e, Nat.sub_self]
      rfl
    · rw [if_neg e]
      rw [List.getElem?_eq_none (by simp; omega)]
      rfl
/-- something of one's own, unknown to the base, is stored -/
theorem Kp.off {p l : Addr} {H H' : Hp} {o : HO} (k : Kp p H H') (n : H l = none) (ne : l ≠ p) : Kp p H (upd H' l o) := by
  refine ⟨fun b x e => ?_, ?_⟩
  · obtain ⟨nb, e2⟩ := cut_has e
    rw [cut_ne nb, upd_ne (ne_of_none e2 n)]
    exact (cut_has (k.same b x e)).2
  · obtain ⟨x, y, e, r⟩ := k.pot
    exact ⟨x, y, by rw [upd_ne ne.symm]; exact e, r⟩
theorem Kp.new {p l : Addr} {H : Hp} {o : HO} (h : PotAt H p) (n : H l = none) : Kp p H (upd H l o) := Kp.of h (same_new n)
theorem Kp.at_ {p l : Addr} {H H' : Hp} {o : HO} (k : Kp p H H') (e : H l = some o) (ne : l ≠ p) : H' l = some o := (cut_has (k.same l o (by rw [cut_ne ne]; exact e))).2
section
variable {P : Program} {w : World} {K : PySem.W.Frag} {mg : Str → Option Value} {base : Heap} {C f : Addr} {fd : FuncData}
def spLawDays : Sp := fun vs H Q _ => ∃ (p : Addr) (n : Nat) (z : Int), vs = [.ref p, .int n, .int z] ∧ 0 < n ∧ n ≤ 600 ∧ PotAt H p ∧
  ∀ (l : Addr) (H' : Hp) (days : List Int), Kp p H H' → H l = none → H' l = some (.lst (vi days)) → days.length = n → IsTab days → (∀ i, i < n → z ≤ days.getD i 0 ∧ days.getD i 0 ≤ z + n) → Q (.ref l) H'
theorem scLawDays : FnScope ["_law_pot_here", "_law_length", "_law_first", "_law_days_here", "_law_left", "_law_turn", "_law_step"] ["_law_pot_here", "_law_length", "_law_first"] (defScope sLawDays) := ⟨rfl, rfl, rfl, by decide +kernel, rfl, by decide +kernel, by decide +kernel⟩
theorem ok_lawDays {fP : Addr} {dP : FuncData} (F : Fun K "_law_days" "_law_days" sLawDays f fd) (GP : FnOk P w K mg base CX0 2 fP dP ["_law_pot_here", "_law_some"] spPick) (kP : PySem.W.keepIn K (.ref fP) = true) (bP : Binds K dP ["_law_pot_here", "_law_some"] []) (mP : mg "_law_pick" = some (.ref fP))
    (T : Txt K mg C) : FnOk P w K mg base CX0 3 f fd ["_law_pot_here", "_law_length", "_law_first"] spLawDays := by
  have nd := scLawDays.nd
  refine F.ok scLawDays (fun vs H Q E h => ?_) (fun cdv A outer s H vs Q E hr h => ?_)
  · obtain ⟨p, n, z, rfl, _⟩ := h
    rfl
  · obtain ⟨p, n, z, rfl, n0, n1, hp, q⟩ := h
    refine ⟨_, pss_cons (ps_par (i := 3) (j := 4) (by rfl) nd rfl rfl (by decide) rfl rfl (pa_cons (pe_lst (pa_cons (pv 2) pa_nil)) (pa_cons (pv 1) pa_nil)) (by rfl))
      (pss_cons (ps_for PassesOwn.never rfl (pi_range1 (by rfl) T.range (pa_cons (pe_op op_sub (pv 1) pe_int) pa_nil)) (pg_name (i := 5) nd rfl (.inl rfl))
        (pss_cons (ps_set (i := 6) nd rfl (.inl rfl) (pe_callB (call_min2 rfl) (by rfl) T.min boot_min (pa_cons (pv 4) (pa_cons (pe_call GP hr (by rfl) mP kP bP .nil pass0 (pa_cons (pv 0) (pa_cons (pe_lst (pa_cons pe_int (pa_cons pe_int (pa_cons pe_int (pa_cons pe_int (pa_cons pe_int (pa_cons pe_int (pa_cons (pv 1) pa_nil)))))))) pa_nil))) pa_nil))))
        (pss_cons (ps_expr (pe_bm PySem.F.plainAttrs_list PySem.F.slot_list_append PySem.F.type_list_append mt_append (pv 3) (pa_cons (pe_op op_add (pe_ix ix_list (pv 3) (pe_un un_neg pe_int) (fun _ _ => rfl)) (pv 6)) pa_nil)))
        (pss_one (ps_set (i := 4) nd rfl (.inl rfl) (pe_op op_sub (pv 4) (pv 6)))))))
      (pss_one (ps_ret (pv 3)))), ?_⟩
    refine ⟨_, rfl, (by show 1 ≤ sizeLine; decide), fun l nl => ⟨_, rfl, _, _, rfl, ?_⟩⟩
    have nlp := hp.ne nl
    refine ⟨_, rfl, _, _, rfl, rfl, _, rfl, by omega, by omega, ?_⟩
    refine for_range (fun i σ H2 => ∃ (ds : List Int) (left : Int) (y5 y6 : Option V), σ = [some (.ref p), some (.int n), some (.int z), some (.ref l), some (.int left), y5, y6] ∧ Kp p H H2 ∧ H2 l = some (.lst (vi ds)) ∧ ds.length = i + 1 ∧ 0 ≤ left ∧
      ds.getD 0 0 = z ∧ ds.getD i 0 + left = z + n ∧ ∀ j, j < i → ds.getD j 0 ≤ ds.getD (j + 1) 0) ⟨[z], n, none, none, rfl, Kp.new hp nl, upd_same, rfl, by omega, rfl, rfl, fun j hj => absurd hj (Nat.not_lt_zero _)⟩ (fun i σ H2 hi hP => ?_) fun σ H2 hP => ?_
    · obtain ⟨ds, left, y5, y6, rfl, k2, hl2, hlen, left0, d0, dl, up⟩ := hP
      refine ⟨_, rfl, _, rfl, _, rfl, (by show 7 ≤ sizeLine; decide), fun a na => ?_⟩
      have nap := k2.pot.ne na
      have s3 := same_new (o := .lst (vi [0, 0, 1, 1, 2, 3, (n : Int)])) na
      have p3 := k2.pot.same s3
      refine ⟨p, a, [0, 0, 1, 1, 2, 3, (n : Int)], rfl, p3, ?_, (by show 0 < 7; decide), (by show 7 ≤ 1000; decide), fun j H4 hj k4 => ?_⟩
      · rw [cut_ne nap]
        exact upd_same
      · have k24 : Kp p H2 H4 := (Kp.of k2.pot s3).trans k4
        have hl4 := k24.at_ hl2 nlp
        have x0 : 0 ≤ ([0, 0, 1, 1, 2, 3, (n : Int)] : List Int).getD j 0 := by
          have all : ∀ y, y ∈ ([0, 0, 1, 1, 2, 3, (n : Int)] : List Int) → 0 ≤ y := fun y hy => by
            simp only [List.mem_cons, List.not_mem_nil, or_false] at hy
            omega
          exact all _ (getD_mem hj)
        generalize ([0, 0, 1, 1, 2, 3, (n : Int)] : List Int).getD j 0 = x at x0
        refine ⟨_, _, rfl, ?_⟩
        have hst : ∃ st : Int, (if x < left then x else left) = st ∧ 0 ≤ st ∧ st ≤ left := ⟨_, rfl, by split <;> omega, by split <;> omega⟩
        obtain ⟨st, est, st0, st1⟩ := hst
        rw [est]
        refine ⟨_, rfl, .inl ⟨rfl, _, SqL.of hl4⟩, _, rfl, 1, rfl, l, _, _, _, rfl, rfl, SqL.of hl4, vi_last (by omega), _, rfl, _, _, rfl, rfl, l, _, _, rfl, rfl, hl4, ?_, ?_⟩
        · rw [List.length_map]
          exact small1000 (by omega)
        refine ⟨_, rfl, _, rfl, _, _, rfl, rfl, ?_⟩
        refine ⟨ds ++ [ds.getD (ds.length - 1) 0 + st], left - st, _, _, rfl, (k2.trans k24).off nl nlp, ?_, by rw [List.length_append, hlen]; rfl, by omega, ?_, ?_, fun j' hj' => ?_⟩
        · rw [upd_same]
          unfold vi
          rw [List.map_append]
          rfl
        · rw [getD_snoc, if_pos (by omega)]
          exact d0
        · rw [getD_snoc, if_neg (by omega), if_pos hlen.symm, hlen, Nat.add_sub_cancel]
          omega
        · rw [getD_snoc, getD_snoc, if_pos (by omega)]
          by_cases e : j' + 1 < ds.length
          · rw [if_pos e]
            exact up j' (by omega)
          · rw [if_neg e, if_pos (by omega), hlen, Nat.add_sub_cancel, show j' = i by omega]
            omega
    · obtain ⟨ds, left, y5, y6, rfl, k2, hl2, hlen, left0, d0, dl, up⟩ := hP
      have en : ((n : Int) - 1).toNat = n - 1 := by omega
      rw [en] at hlen dl up
      have tab : IsTab ds := ⟨by omega, by omega, fun i hi => up i (by omega), by rw [hlen, Nat.add_sub_cancel, d0]; omega⟩
      refine ⟨_, rfl, q l H2 ds k2 nl hl2 (by omega) tab fun i hi => ?_⟩
      have a := tab.le' (i := 0) (j := i) (by omega) (by omega)
      have b := tab.le' (i := i) (j := n - 1) (by omega) (by omega)
      rw [d0] at a
      omega
def spLawOn : Sp := fun vs H Q _ => ∃ (a : Addr) (days : List Int) (x : Int), vs = [.ref a, .int x] ∧ H a = some (.lst (vi days)) ∧ 0 < days.length ∧ days.length ≤ 600 ∧ Q (.int (onD days x)) H
theorem scLawOn : FnScope ["_law_days_here", "_law_day", "_law_part"] ["_law_days_here", "_law_day"] (defScope sLawOn) := ⟨rfl, rfl, rfl, by decide +kernel, rfl, by decide +kernel, by decide +kernel⟩
theorem ok_lawOn (F : Fun K "_law_on" "_law_on" sLawOn f fd) (T : Txt K mg C) : FnOk P w K mg base CX0 1 f fd ["_law_days_here", "_law_day"] spLawOn := by
  refine F.ok scLawOn (fun vs H Q E h => ?_) (fun cdv A outer s H vs Q E hr h => ?_)
  · obtain ⟨a, days, x, rfl, _⟩ := h
    rfl
  · obtain ⟨a, days, x, rfl, ha, h0, h1, q⟩ := h
    refine ⟨_, pss_cons (ps_set (i := 2) scLawOn.nd rfl (.inl rfl) (pe_op op_mul (pe_op op_fdiv (pv 1) (pe_callB call_len_seq (by rfl) T.len boot_len (pa_cons (pv 0) pa_nil))) (pe_callB call_len_seq (by rfl) T.len boot_len (pa_cons (pv 0) pa_nil))))
      (pss_one (ps_ret (pe_op op_add (pe_ix ix_list (pv 0) (pe_op op_sub (pv 1) (pv 2)) (fun _ _ => rfl)) (pv 2)))), ?_⟩
    have el : ((vi days).length : Int) = (days.length : Int) := by rw [List.length_map]
    refine ⟨_, rfl, _, rfl, a, _, rfl, .inl (SqL.of ha), _, _, rfl, rfl, ⟨by omega, by omega⟩, _, rfl, a, _, rfl, .inl (SqL.of ha), _, _, rfl, rfl, .inr ⟨by omega, by omega⟩, ?_⟩
    have e : x - x / (days.length : Int) * days.length = x % days.length := by
      have := Int.emod_add_mul_ediv x days.length
      rw [Int.mul_comm] at this
      omega
    have b0 := Int.emod_nonneg x (show (days.length : Int) ≠ 0 by omega)
    have b1 := Int.emod_lt_of_pos x (show (0 : Int) < days.length by omega)
    refine ⟨_, rfl, _, rfl, _, rfl, _, _, rfl, rfl, a, _, _, _, rfl, rfl, SqL.of ha, vi_atI (i := (x % days.length).toNat) (by rw [el, e]; omega) (by omega), _, rfl, _, _, rfl, rfl, ?_⟩
    have q' : Q (.int (days.getD (x % days.length).toNat 0 + x / days.length * days.length)) H := q
    rw [← el] at q'
    rw [el] at q' ⊢
    exact q'
def spMove (g : Int → Row → Int → Int) : Sp := fun vs H Q _ => ∃ (n : Int) (t : Addr) (r : Row) (d : Int), vs = [.int n, .ref t, .int d] ∧ 0 < n ∧ n < 1073741824 ∧ H t = some (.tup [.int r.1, .int r.2]) ∧ Q (.int (g n r d)) H
theorem scEarly : FnScope ["_law_length", "_law_row", "_law_day"] ["_law_length", "_law_row", "_law_day"] (defScope sEarly) := ⟨rfl, rfl, rfl, by decide +kernel, rfl, by decide +kernel, by decide +kernel⟩
theorem ok_early (F : Fun K "_law_early" "_law_early" sEarly f fd) : FnOk P w K mg base CX0 1 f fd ["_law_length", "_law_row", "_law_day"] (spMove early) := by
  refine F.ok scEarly (fun vs H Q E h => ?_) (fun cdv A outer s H vs Q E hr h => ?_)
  · obtain ⟨n, t, r, d, rfl, _⟩ := h
    rfl
  · obtain ⟨n, t, r, d, rfl, n0, n1, ht, q⟩ := h
    refine ⟨_, pss_one (ps_ret (pe_op op_add (pe_ix ix_tup (pv 1) pe_int (fun _ _ => rfl)) (pe_op op_mul (pe_op op_fdiv (pe_op op_sub (pv 2) (pe_ix ix_tup (pv 1) pe_int (fun _ _ => rfl))) (pv 0)) (pv 0)))), ?_⟩
    exact ⟨_, rfl, t, _, _, _, rfl, rfl, SqT.of ht, atI_nat (j := 1) rfl, _, rfl, _, rfl, t, _, _, _, rfl, rfl, SqT.of ht, atI_nat (j := 0) rfl, _, _, rfl, rfl, _, rfl, _, _, rfl, rfl, ⟨n0, n1⟩, _, rfl, _, _, rfl, rfl, .inr ⟨by omega, by omega⟩, _, _, rfl, rfl, q⟩
theorem scLate : FnScope ["_law_length", "_law_row", "_law_day"] ["_law_length", "_law_row", "_law_day"] (defScope sLate) := ⟨rfl, rfl, rfl, by decide +kernel, rfl, by decide +kernel, by decide +kernel⟩
theorem ok_late (F : Fun K "_law_late" "_law_late" sLate f fd) : FnOk P w K mg base CX0 1 f fd ["_law_length", "_law_row", "_law_day"] (spMove late) := by
  refine F.ok scLate (fun vs H Q E h => ?_) (fun cdv A outer s H vs Q E hr h => ?_)
  · obtain ⟨n, t, r, d, rfl, _⟩ := h
    rfl
  · obtain ⟨n, t, r, d, rfl, n0, n1, ht, q⟩ := h
    refine ⟨_, pss_one (ps_ret (pe_op op_sub (pe_ix ix_tup (pv 1) pe_int (fun _ _ => rfl)) (pe_op op_mul (pe_op op_fdiv (pe_op op_sub (pe_ix ix_tup (pv 1) pe_int (fun _ _ => rfl)) (pv 2)) (pv 0)) (pv 0)))), ?_⟩
    exact ⟨_, rfl, t, _, _, _, rfl, rfl, SqT.of ht, atI_nat (j := 1) rfl, _, rfl, t, _, _, _, rfl, rfl, SqT.of ht, atI_nat (j := 0) rfl, _, rfl, _, _, rfl, rfl, _, rfl, _, _, rfl, rfl, ⟨n0, n1⟩, _, rfl, _, _, rfl, rfl, .inr ⟨by omega, by omega⟩, _, _, rfl, rfl, q⟩
def spKept : Sp := fun vs H Q _ => ∃ (n : Nat) (a : Addr) (xs : List V) (rows : List Row), vs = [.int n, .ref a] ∧ 0 < n ∧ n ≤ 600 ∧ RowsAt H true a xs rows ∧ (Kept n rows → Q (.bl true) H) ∧ (¬ Kept n rows → Q (.bl false) H)
theorem scKept : FnScope ["_law_length", "_law_rows", "_law_row", "_law_other"] ["_law_length", "_law_rows"] (defScope sKept) := ⟨rfl, rfl, rfl, by decide +kernel, rfl, by decide +kernel, by decide +kernel⟩
theorem ok_kept {fE : Addr} {dE : FuncData} (F : Fun K "_law_is_kept" "_law_is_kept" sKept f fd) (GE : FnOk P w K mg base CX0 1 fE dE ["_law_length", "_law_row", "_law_day"] (spMove early)) (kE : PySem.W.keepIn K (.ref fE) = true) (bE : Binds K dE ["_law_length", "_law_row", "_law_day"] []) (mE : mg "_law_early" = some (.ref fE)) :
    FnOk P w K mg base CX0 2 f fd ["_law_length", "_law_rows"] spKept := by
  have nd := scKept.nd
  refine F.ok scKept (fun vs H Q E h => ?_) (fun cdv A outer s H vs Q E hr h => ?_)
  · obtain ⟨n, a, xs, rows, rfl, _⟩ := h
    rfl
  · obtain ⟨n, a, xs, rows, rfl, n0, n1, R, kT, kF⟩ := h
    have hl := R.rows.len
    have ha : H a = some (.lst xs) := R.at_
    refine ⟨_, pss_cons (ps_for PassesOwn.never rfl (pi_list (pv 1)) (pg_name (i := 2) nd rfl (.inl rfl))
        (pss_one (ps_for PassesOwn.never rfl (pi_list (pv 1)) (pg_name (i := 3) nd rfl (.inl rfl))
          (pss_one (ps_if (pt_cmpR op_gt (pe_call GE hr (by rfl) mE kE bE .nil pass0 (pa_cons (pv 0) (pa_cons (pv 2) (pa_cons (pe_ix ix_tup (pv 3) pe_int (fun _ _ => rfl)) pa_nil)))) (pe_ix ix_tup (pv 3) pe_int (fun _ _ => rfl)) (nomark _)) (pss_one (ps_ret pe_bl)) pss_nil)))))
      (pss_one (ps_ret pe_bl)), ?_⟩
    refine ⟨_, rfl, a, rfl, ⟨_, SqL.of ha⟩, ?_⟩
    refine for_list (K := K) (a := a) (xs := xs) (fun i σ H2 => (∃ y2 y3, σ = [some (.int n), some (.ref a), y2, y3]) ∧ H2 = H ∧ ∀ j, j < i → ∀ o, o ∈ rows → early n (at_ rows j) o.1 ≤ o.2) ⟨⟨none, none, rfl⟩, rfl, fun j hj => absurd hj (Nat.not_lt_zero _)⟩ (fun i σ H2 _ hP => by rw [hP.2.1]; exact SqL.of ha) (fun i x σ H2 hx hP => ?_) fun σ H2 hP => ?_
    · obtain ⟨⟨y2, y3, rfl⟩, rfl, hup⟩ := hP
      have hi : i < rows.length := by
        have := (List.getElem?_eq_some_iff.mp hx).1
        omega
      obtain ⟨t, et, ht⟩ := R.rows.tup hi
      rw [hx] at et
      have et := Option.some.inj et
      subst et
      refine ⟨_, rfl, a, rfl, ⟨_, SqL.of ha⟩, ?_⟩
      refine for_list (K := K) (a := a) (xs := xs) (fun i' σ H3 => (∃ y3, σ = [some (.int n), some (.ref a), some (.ref t), y3]) ∧ H3 = H2 ∧ ∀ j, j < i' → early n (at_ rows i) (at_ rows j).1 ≤ (at_ rows j).2) ⟨⟨y3, rfl⟩, rfl, fun j hj => absurd hj (Nat.not_lt_zero _)⟩ (fun i' σ H3 _ hP => by rw [hP.2.1]; exact SqL.of ha) (fun i' x σ H3 hx' hP => ?_) fun σ H3 hP => ?_
      · obtain ⟨⟨y3, rfl⟩, rfl, hup2⟩ := hP
        have hi' : i' < rows.length := by
          have := (List.getElem?_eq_some_iff.mp hx').1
          omega
        obtain ⟨u, eu, hu⟩ := R.rows.tup hi'
        rw [hx'] at eu
        have eu := Option.some.inj eu
        subst eu
        refine ⟨_, rfl, _, rfl, _, rfl, u, _, _, _, rfl, rfl, SqT.of hu, atI_nat (j := 0) rfl, n, t, at_ rows i, _, rfl, by omega, by omega, ht, ?_⟩
        refine ⟨_, rfl, u, _, _, _, rfl, rfl, SqT.of hu, atI_nat (j := 1) rfl, _, _, rfl, rfl, _, rfl, ?_⟩
        by_cases q : (at_ rows i').2 < early n (at_ rows i) (at_ rows i').1
        · refine if_t q ?_
          refine kF fun k => ?_
          have := k _ (at_mem hi) _ (at_mem hi')
          omega
        · refine if_f q ?_
          refine ⟨⟨_, rfl⟩, rfl, fun j hj => ?_⟩
          by_cases e : j = i'
          · rw [e]
            omega
          · exact hup2 j (by omega)
      · obtain ⟨⟨y3, rfl⟩, rfl, hup2⟩ := hP
        refine ⟨⟨_, _, rfl⟩, rfl, fun j hj o ho => ?_⟩
        by_cases e : j = i
        · obtain ⟨m, hm, rfl⟩ := mem_at ho
          rw [e]
          exact hup2 m (by omega)
        · exact hup j (by omega) o ho
    · obtain ⟨⟨y2, y3, rfl⟩, rfl, hup⟩ := hP
      refine kT fun r hr' o ho => ?_
      obtain ⟨m, hm, rfl⟩ := mem_at hr'
      exact hup m (by omega) o ho
def spTold (C : Addr) : Sp := fun vs H Q _ => (vs = [.non] ∧ Q .non H) ∨ ∃ (p : Addr) (days : List Int), vs = [.ref p] ∧ TabAt C H p days ∧ ∀ (q l : Addr) (H' : Hp), Same H H' → H' q = some (.lst [.ref l, .bl true]) → H' l = some (.lst (vi days)) → Q (.ref q) H'
theorem scTold : FnScope ["_law_table"] ["_law_table"] (defScope sTold) := ⟨rfl, rfl, rfl, by decide +kernel, rfl, by decide +kernel, by decide +kernel⟩
theorem ok_told {fD : Addr} {dD : FuncData} (F : Fun K "_law_told" "_law_told" sTold f fd) (GD : FnOk P w K mg base CX0 1 fD dD ["self"] (spDays C)) (bD : Binds K dD ["self"] []) (mD : Meth K C "days" fD) (T : Txt K mg C) : FnOk P w K mg base CX0 2 f fd ["_law_table"] (spTold C) := by
  refine F.ok scTold (fun vs H Q E h => ?_) (fun cdv A outer s H vs Q E hr h => ?_)
  · rcases h with ⟨rfl, _⟩ | ⟨p, days, rfl, _⟩
    · rfl
    · rfl
  · refine ⟨_, pss_one (ps_ret (pe_ifExp (pt_cmpR op_isN (pv 0) pe_non (nomark _)) pe_non (pe_lst (pa_cons (pe_meth0 (pv 0) T.cl mD GD hr bD .nil pass0) (pa_cons (pe_callB call_isi (by rfl) T.isi boot_isinstance (pa_cons (pv 0) (pa_cons (pe_glob (v := .ref C) (by rfl) T.mgC rfl) pa_nil))) pa_nil))))), ?_⟩
    rcases h with ⟨rfl, q⟩ | ⟨p, days, rfl, t, q⟩
    · refine ⟨_, rfl, rfl, _, rfl, ?_⟩
      exact if_t rfl q
    · refine ⟨_, rfl, rfl, _, rfl, ?_⟩
      refine if_f (by intro z; cases z) ?_
      obtain ⟨dx, l, h1, h2⟩ := t.at_
      refine ⟨_, rfl, p, dx, _, rfl, h1, flds_no _ _ (by decide +kernel) (by decide +kernel), p, days, rfl, t, fun m H1 s1 nm hm => ?_⟩
      refine ⟨_, rfl, .ref p, .ref C, .ref C, .ref C, true, rfl, .own C, (t.same s1).ty T, T.tyC, ?_⟩
      refine ⟨(by show 2 ≤ sizeLine; decide), fun e ne => ?_⟩
      have s2 := same_new (o := .lst [.ref m, .bl true]) ne
      exact q e m _ (s1.trans s2) upd_same (s2 _ _ hm)
end
end K16
set_option maxRecDepth 100000
set_option maxHeartbeats 4000000
/-! What is due. -/
namespace K16
open PySem PySem.Spec PyProof.Rows L2
theorem seqT_same {K : PySem.W.Frag} {H H' : Hp} {a : Addr} {xs : List V} (e : Same H H') (h : SqT K H a xs) : SqT K H' a xs := by
  rcases h with (h | ⟨o, h⟩) | h
  · exact .inl (.inl (e _ _ h))
  · exact .inl (.inr ⟨o, e _ _ h⟩)
  · exact .inr h
mutual
theorem dp_same {K : PySem.W.Frag} {H H' : Hp} (s : Same H H') : ∀ (d : PyData) (v : V), Dp K H v d → Dp K H' v d
  | .none, _, h => by
    cases h
    exact .non
  | .bool b, _, h => by
    cases h
    exact .bl b
  | .int i, _, h => by
    cases h
    exact .int i
  | .str x, _, h => by
    cases h
    exact .str x
  | .list ds, _, h => by
    cases h with
    | lst hs ha => exact .lst (s.seq hs) (dpAll_same s ds _ ha)
  | .tuple ds, _, h => by
    cases h with
    | tup hs ha => exact .tup (seqT_same s hs) (dpAll_same s ds _ ha)
  | .dict _, _, h => by cases h
theorem dpAll_same {K : PySem.W.Frag} {H H' : Hp} (s : Same H H') : ∀ (ds : List PyData) (vs : List V), DpAll K H vs ds → DpAll K H' vs ds
  | [], _, h => by
    cases h
    exact .nil
  | d :: ds, _, h => by
    cases h with
    | cons h1 h2 => exact .cons (dp_same s d _ h1) (dpAll_same s ds _ h2)
end
open Classical in
/-- the earliest and the latest one's days, if there is a rule -/
noncomputable def tellO (n : Nat) (rows : List Row) : Option (List Int × List Int) := if Kept n rows then some (tab n (gr n rows), tab n (le n rows)) else none
theorem tellO_yes {n : Nat} {rows : List Row} (k : Kept n rows) : tellO n rows = some (tab n (gr n rows), tab n (le n rows)) := by
  unfold tellO
  rw [if_pos k]
theorem tellO_no {n : Nat} {rows : List Row} (k : ¬ Kept n rows) : tellO n rows = none := by
  unfold tellO
  rw [if_neg k]
/-- days within 10 ^ 9 -/
def Bd (rows : List Row) : Prop := ∀ r, r ∈ rows → -1000000000 ≤ r.1 ∧ r.1 ≤ 1000000000 ∧ -1000000000 ≤ r.2 ∧ r.2 ≤ 1000000000
theorem told_of {n : Nat} {rows : List Row} (n0 : 0 < n) (n1 : n ≤ 600) (h0 : rows ≠ []) (B : Bd rows) : Told (tellO n rows) := by
  refine ⟨fun e l h => ?_⟩
  by_cases k : Kept n rows
  · rw [tellO_yes k] at h
    obtain ⟨rfl, rfl⟩ := Prod.mk.inj (Option.some.inj h)
    refine ⟨fun x hx => ?_, fun x hx => ?_, by rw [tab_len]; exact n1, by rw [tab_len]; exact n1⟩
    · obtain ⟨i, hi, rfl⟩ := List.mem_map.mp hx
      have hi := List.mem_range.mp hi
      obtain ⟨r, hr, e⟩ := gr_ex (n := (n : Int)) (d := (i : Int)) h0
      obtain ⟨b1, b2, b3, b4⟩ := B r hr
      have q := Int.ediv_mul_le ((i : Int) - r.1) (show (n : Int) ≠ 0 by omega)
      have q2 := Int.lt_ediv_add_one_mul_self ((i : Int) - r.1) (show (0 : Int) < n by omega)
      rw [Int.add_mul, Int.one_mul] at q2
      rw [e]
      unfold early
      omega
    · obtain ⟨i, hi, rfl⟩ := List.mem_map.mp hx
      have hi := List.mem_range.mp hi
      obtain ⟨r, hr, e⟩ := le_ex (n := (n : Int)) (d := (i : Int)) h0
      obtain ⟨b1, b2, b3, b4⟩ := B r hr
      have q := Int.ediv_mul_le (r.1 - (i : Int)) (show (n : Int) ≠ 0 by omega)
      have q2 := Int.lt_ediv_add_one_mul_self (r.1 - (i : Int)) (show (0 : Int) < n by omega)
      rw [Int.add_mul, Int.one_mul] at q2
      rw [e]
      unfold late
      omega
  · rw [tellO_no k] at h
    cases h
theorem rows_map_at {rows : List Row} {g : Row → Int} : (List.range rows.length).map (fun j => g (at_ rows j)) = rows.map g := by
  refine List.ext_getElem? fun i => ?_
  rw [List.getElem?_map, List.getElem?_map]
  by_cases h : i < rows.length
  · rw [List.getElem?_range h, List.getElem?_eq_getElem h, rows_get (List.getElem?_eq_getElem h) |>.symm]
    rfl
  · rw [List.getElem?_eq_none (by simpa using h), List.getElem?_eq_none (by omega)]
    rfl
/-- the scope of a comprehension that is given to a name, as the def's k-th statement -/
def lcScope (s : Stmt) (k : Nat) : Scope := match (defBody s).getD k (.Pass ⟨0, 0, 0, 0⟩) with
  | .Assign _ (.ListComp _ _ sc _) _ => sc
  | _ => defScope s
section
variable {P : Program} {w : World} {K : PySem.W.Frag} {mg : Str → Option Value} {base : Heap} {C f : Addr} {fd : FuncData}
def spDue (K : PySem.W.Frag) : Sp := fun vs H Q _ => ∃ (n : Nat) (a : Addr) (xs : List V) (rows : List Row), vs = [.int n, .ref a] ∧ 0 < n ∧ n ≤ 600 ∧ RowsAt H true a xs rows ∧ 1 ≤ rows.length ∧ rows.length ≤ 60 ∧
  ∀ (q : Addr) (H' : Hp), Same H H' → Dp K H' (.ref q) (dTold (tellO n rows)) → Q (.ref q) H'
theorem scDue : FnScope ["_law_length", "_law_rows", "_law_early_here", "_law_late_here", "_law_row", "_law_day"] ["_law_length", "_law_rows"] (defScope sDue) := ⟨rfl, rfl, rfl, by decide +kernel, rfl, by decide +kernel, by decide +kernel⟩
theorem ok_due {fK fE fL : Addr} {dK dE dL : FuncData} (F : Fun K "_law_due" "_law_due" sDue f fd)
    (GK : FnOk P w K mg base CX0 2 fK dK ["_law_length", "_law_rows"] spKept) (kK : PySem.W.keepIn K (.ref fK) = true) (bK : Binds K dK ["_law_length", "_law_rows"] []) (mK : mg "_law_is_kept" = some (.ref fK))
    (GE : FnOk P w K mg base CX0 1 fE dE ["_law_length", "_law_row", "_law_day"] (spMove early)) (kE : PySem.W.keepIn K (.ref fE) = true) (bE : Binds K dE ["_law_length", "_law_row", "_law_day"] []) (mE : mg "_law_early" = some (.ref fE))
    (GL : FnOk P w K mg base CX0 1 fL dL ["_law_length", "_law_row", "_law_day"] (spMove late)) (kL : PySem.W.keepIn K (.ref fL) = true) (bL : Binds K dL ["_law_length", "_law_row", "_law_day"] []) (mL : mg "_law_late" = some (.ref fL))
    (T : Txt K mg C) : FnOk P w K mg base CX0 3 f fd ["_law_length", "_law_rows"] (spDue K) := by
  have nd := scDue.nd
  refine F.ok scDue (fun vs H Q E h => ?_) (fun cdv A outer s H vs Q E hr h => ?_)
  · obtain ⟨n, a, xs, rows, rfl, _⟩ := h
    rfl
  · obtain ⟨n, a, xs, rows, rfl, n0, n1, R, h0, hm, q⟩ := h
    have hr1 : Room 1 _ := hr.mono (by decide)
    have hl := R.rows.len
    have hne : rows ≠ [] := List.ne_nil_of_length_pos (by omega)
    refine ⟨_, pss_cons (ps_if (pt_not (pt_val (pe_call GK hr (by rfl) mK kK bK .nil pass0 (pa_cons (pv 0) (pa_cons (pv 1) pa_nil))))) (pss_one (ps_ret (pe_lst (pa_cons pe_non (pa_cons pe_non pa_nil))))) pss_nil)
      (pss_cons (ps_setLc (i := 2) (own := [("_law_day", 5)]) (g := gName 5) (tt := tYes) rfl nd rfl rfl (sw_true rfl rfl rfl (by decide +kernel)) (pi_range1 (by rfl) T.range (pa_cons (pv 0) pa_nil)) (blkOk_by (N := ["_law_length", "_law_rows", "_law_early_here", "_law_late_here", "_law_row", "_law_day"]) (sc := defScope sDue) (by decide +kernel))
          (fun _ _ _ _ _ => pg_name (i := 5) nd rfl (.inr rfl)) (fun _ _ _ _ _ => pts_nil) (fun _ _ _ _ _ => pe_callB (r := rMax K) (cr_max rfl) (by rfl) T.max boot_max (pa_cons
            (pe_lc (own := [("_law_row", 4)]) (g := gName 4) (tt := tYes) rfl nd (show PI _ _ _ (iList K (tVar 1)) from pi_list (pv 1)) (blkOk_by (N := ["_law_length", "_law_rows", "_law_early_here", "_law_late_here", "_law_row", "_law_day"]) (sc := relS (lcScope sDue 1) (defScope sDue)) (by decide +kernel))
              (fun _ _ _ _ _ => pg_name (i := 4) nd rfl (.inl rfl)) (fun _ _ _ _ _ => pts_nil) (fun _ _ _ _ _ => pe_call GE hr1 (by rfl) mE kE bE .nil pass0 (pa_cons (pv 0) (pa_cons (pv 4) (pa_cons (pv 5) pa_nil))))) pa_nil)))
      (pss_cons (ps_setLc (i := 3) (own := [("_law_day", 5)]) (g := gName 5) (tt := tYes) rfl nd rfl rfl (sw_true rfl rfl rfl (by decide +kernel)) (pi_range1 (by rfl) T.range (pa_cons (pv 0) pa_nil)) (blkOk_by (N := ["_law_length", "_law_rows", "_law_early_here", "_law_late_here", "_law_row", "_law_day"]) (sc := defScope sDue) (by decide +kernel))
          (fun _ _ _ _ _ => pg_name (i := 5) nd rfl (.inr rfl)) (fun _ _ _ _ _ => pts_nil) (fun _ _ _ _ _ => pe_callB (r := rMin K) (cr_min rfl) (by rfl) T.min boot_min (pa_cons
            (pe_lc (own := [("_law_row", 4)]) (g := gName 4) (tt := tYes) rfl nd (show PI _ _ _ (iList K (tVar 1)) from pi_list (pv 1)) (blkOk_by (N := ["_law_length", "_law_rows", "_law_early_here", "_law_late_here", "_law_row", "_law_day"]) (sc := relS (lcScope sDue 2) (defScope sDue)) (by decide +kernel))
              (fun _ _ _ _ _ => pg_name (i := 4) nd rfl (.inl rfl)) (fun _ _ _ _ _ => pts_nil) (fun _ _ _ _ _ => pe_call GL hr1 (by rfl) mL kL bL .nil pass0 (pa_cons (pv 0) (pa_cons (pv 4) (pa_cons (pv 5) pa_nil))))) pa_nil)))
      (pss_one (ps_ret (pe_lst (pa_cons (pe_lst (pa_cons (pv 2) (pa_cons pe_bl pa_nil))) (pa_cons (pe_lst (pa_cons (pv 3) (pa_cons pe_bl pa_nil))) pa_nil))))))), ?_⟩
    refine ⟨_, rfl, _, rfl, n, a, xs, rows, rfl, n0, n1, R, fun k => ⟨true, rfl, iteF ?_⟩, fun k => ⟨false, rfl, iteT ?_⟩⟩
    · -- there is a rule
      have ha : H a = some (.lst xs) := R.at_
      refine ⟨_, rfl, _, rfl, by omega, by omega, fun D nD => ?_⟩
      refine comp_rng nD (fun i => V.int (gr n rows i)) (by omega) (fun i H1 hi s1 W r => ?_) fun H1 s1 eD => ?_
      · refine ⟨_, rfl, a, rfl, ⟨_, SqL.of (s1 _ _ ha)⟩, fun D' nD' => ?_⟩
        refine comp_lst (xs := xs) nD' (fun j => V.int (early n (at_ rows j) i)) (by omega) (s1 _ _ ha) (fun j x H2 hj s2 W2 r2 => ?_) fun H2 s2 eD' => ?_
        · have hj2 : j < rows.length := by
            have := (List.getElem?_eq_some_iff.mp hj).1
            omega
          obtain ⟨t, et, ht⟩ := (R.rows.same (s1.trans s2)).tup hj2
          rw [hj] at et
          have et := Option.some.inj et
          subst et
          refine ⟨_, rfl, _, rfl, _, rfl, n, t, at_ rows j, _, rfl, by omega, by omega, ht, ?_⟩
          rw [Int.zero_add]
          exact r2 _ (Same.refl _)
        · refine ⟨D', rows.map fun r => early n r i, rfl, SqL.of ?_, by rw [List.length_map]; omega, fun m hm1 hm2 => ?_⟩
          · rw [eD', hl, ← rows_map_at (rows := rows) (g := fun r => early n r i), List.map_map]
            rfl
          · rw [mx_uniq hm1 hm2]
            exact r _ s2
      · have ha1 := s1 _ _ ha
        refine ⟨_, rfl, _, rfl, by omega, by omega, fun D' nD' => ?_⟩
        refine comp_rng nD' (fun i => V.int (le n rows i)) (by omega) (fun i H2 hi s2 W r => ?_) fun H2 s2 eD' => ?_
        · refine ⟨_, rfl, a, rfl, ⟨_, SqL.of (s2 _ _ ha1)⟩, fun D2 nD2 => ?_⟩
          refine comp_lst (xs := xs) nD2 (fun j => V.int (late n (at_ rows j) i)) (by omega) (s2 _ _ ha1) (fun j x H3 hj s3 W2 r2 => ?_) fun H3 s3 eD2 => ?_
          · have hj2 : j < rows.length := by
              have := (List.getElem?_eq_some_iff.mp hj).1
              omega
            obtain ⟨t, et, ht⟩ := (R.rows.same ((s1.trans s2).trans s3)).tup hj2
            rw [hj] at et
            have et := Option.some.inj et
            subst et
            refine ⟨_, rfl, _, rfl, _, rfl, n, t, at_ rows j, _, rfl, by omega, by omega, ht, ?_⟩
            rw [Int.zero_add]
            exact r2 _ (Same.refl _)
          · refine ⟨D2, rows.map fun r => late n r i, rfl, SqL.of ?_, by rw [List.length_map]; omega, fun m hm1 hm2 => ?_⟩
            · rw [eD2, hl, ← rows_map_at (rows := rows) (g := fun r => late n r i), List.map_map]
              rfl
            · rw [mn_uniq hm1 hm2]
              exact r _ s3
        · -- [[.., True], [.., True]]
          have hD2 := s2 _ _ eD
          refine ⟨_, rfl, (by show 2 ≤ sizeLine; decide), fun e ne => ?_⟩
          have s3 := same_new (o := .lst [.ref D, .bl true]) ne
          refine ⟨_, rfl, (by show 2 ≤ sizeLine; decide), fun g ng => ?_⟩
          have s4 := same_new (o := .lst [.ref D', .bl true]) ng
          refine ⟨(by show 2 ≤ sizeLine; decide), fun t nt => ?_⟩
          have s5 := same_new (o := .lst [.ref e, .ref g]) nt
          refine q t _ ((((s1.trans s2).trans s3).trans s4).trans s5) ?_
          rw [tellO_yes k]
          have en : (n : Int).toNat = n := by omega
          rw [en] at eD' hD2
          have dD : ∀ (X : Hp) (d : Addr) (l : List Int), X d = some (.lst (vi l)) → Dp K X (.ref d) (dInts l) := fun X d l h => dp_ints h
          refine .lst (SqL.of upd_same) (.cons (.lst (SqL.of (s5 _ _ (s4 _ _ upd_same))) (.cons (dD _ _ _ ?_) (.cons (.bl true) .nil))) (.cons (.lst (SqL.of (s5 _ _ upd_same)) (.cons (dD _ _ _ ?_) (.cons (.bl true) .nil))) .nil))
          · refine s5 _ _ (s4 _ _ (s3 _ _ ?_))
            rw [hD2]
            unfold vi tab
            rw [List.map_map]
            rfl
          · refine s5 _ _ (s4 _ _ (s3 _ _ ?_))
            rw [eD']
            unfold vi tab
            rw [List.map_map]
            rfl
    · refine ⟨(by show 2 ≤ sizeLine; decide), fun t nt => ?_⟩
      refine q t _ (same_new nt) ?_
      rw [tellO_no k]
      exact .lst (SqL.of upd_same) (.cons .non (.cons .non .nil))
end
end K16
set_option maxRecDepth 100000
set_option maxHeartbeats 4000000
/-! What is told is what is due. -/
namespace K16
open PySem PySem.Spec PyProof.Rows L2
/-- what is told of a rule of these rows -/
def ToldV (n : Nat) (rows : List Row) (g : Int → List Row → Int → Int) (v : V) (H : Hp) : Prop :=
  (¬ Kept n rows ∧ v = .non) ∨ (Kept n rows ∧ ∃ q l : Addr, v = .ref q ∧ H q = some (.lst [.ref l, .bl true]) ∧ H l = some (.lst (vi (tab n (g n rows)))))
theorem ToldV.same {n : Nat} {rows : List Row} {g : Int → List Row → Int → Int} {v : V} {H H' : Hp} (h : ToldV n rows g v H) (s : Same H H') : ToldV n rows g v H' := by
  rcases h with h | ⟨k, q, l, e, h1, h2⟩
  · exact .inl h
  · exact .inr ⟨k, q, l, e, s _ _ h1, s _ _ h2⟩
@[irreducible] def spFindI (C : Addr) (g : Int → List Row → Int → Int) : Sp := spFind C g
@[irreducible] def spToldI (C : Addr) : Sp := spTold C
theorem find_told {C : Addr} {g : Int → List Row → Int → Int} {n : Nat} {a : Addr} {b : Bool} {xs : List V} {rows : List Row} {H : Hp} (n0 : 0 < n) (n1 : n ≤ 600) (R : RowsAt H b a xs rows) (h0 : 1 ≤ rows.length) (hm : rows.length ≤ 60) {W : VK}
    (q : ∀ (v : V) (H' : Hp), Same H H' → ToldV n rows g v H' → W v H') : spFindI C g [.int n, .ref a] H (fun v H1 => spToldI C [v] H1 W E0) E0 := by
  unfold spFindI spToldI
  refine ⟨n, a, b, xs, rows, rfl, n0, n1, R, h0, hm, fun k H1 s1 => .inl ⟨rfl, q _ _ s1 (.inl ⟨k, rfl⟩)⟩, fun k H1 p s1 np tb _ => .inr ⟨p, _, rfl, tb, fun e l H2 s2 he hl => ?_⟩⟩
  exact q _ _ (s1.trans s2) (.inr ⟨k, e, l, rfl, he, hl⟩)
theorem told_dp {K : PySem.W.Frag} {n : Nat} {rows : List Row} {H : Hp} {v1 v2 : V} {t : Addr} (h1 : ToldV n rows gr v1 H) (h2 : ToldV n rows le v2 H) (ht : H t = some (.lst [v1, v2])) : Dp K H (.ref t) (dTold (tellO n rows)) := by
  rcases h1 with ⟨k, rfl⟩ | ⟨k, q, l, rfl, a1, a2⟩
  · rcases h2 with ⟨_, rfl⟩ | ⟨k', _⟩
    · rw [tellO_no k]
      exact .lst (SqL.of ht) (.cons .non (.cons .non .nil))
    · exact absurd k' k
  · rcases h2 with ⟨k', _⟩ | ⟨_, q', l', rfl, b1, b2⟩
    · exact absurd k k'
    · rw [tellO_yes k]
      exact .lst (SqL.of ht) (.cons (.lst (SqL.of a1) (.cons (dp_ints a2) (.cons (.bl true) .nil))) (.cons (.lst (SqL.of b1) (.cons (dp_ints b2) (.cons (.bl true) .nil))) .nil))
/-- how earliest_with(rows=.., count=..) binds -/
def swapV : List V → List V → List V
  | [], [r, c] => [c, r]
  | _, _ => []
def swapU : List Value → List Value → List Value
  | [], [r, c] => [c, r]
  | _, _ => []
section
variable {P : Program} {w : World} {K : PySem.W.Frag} {mg : Str → Option Value} {base : Heap} {C f : Addr} {fd : FuncData}
def spPair : Sp := fun vs H Q _ => ∃ (n : Nat) (a : Addr) (xs : List V) (rows : List Row), vs = [.int n, .ref a] ∧ 0 < n ∧ n ≤ 600 ∧ RowsAt H true a xs rows ∧ 1 ≤ rows.length ∧ rows.length ≤ 60 ∧ Bd rows ∧ ∀ H', Same H H' → Q (.bl true) H'
theorem scPair : FnScope ["_law_length", "_law_rows", "_law_due_here", "_law_passed", "_law_told_here"] ["_law_length", "_law_rows"] (defScope sPair) := ⟨rfl, rfl, rfl, by decide +kernel, rfl, by decide +kernel, by decide +kernel⟩
theorem ok_pair {fU fT fE fL : Addr} {dU dT dE dL : FuncData} (F : Fun K "_law_pair_right" "_law_pair_right" sPair f fd)
    (GU : FnOk P w K mg base CX0 3 fU dU ["_law_length", "_law_rows"] (spDue K)) (kU : PySem.W.keepIn K (.ref fU) = true) (bU : Binds K dU ["_law_length", "_law_rows"] []) (mU : mg "_law_due" = some (.ref fU))
    (GT : FnOk P w K mg base CX0 2 fT dT ["_law_table"] (spTold C)) (kT : PySem.W.keepIn K (.ref fT) = true) (bT : Binds K dT ["_law_table"] []) (mT : mg "_law_told" = some (.ref fT))
    (GE : FnOk P w K mg base CX0 6 fE dE ["count", "rows"] (spFind C gr)) (kE : PySem.W.keepIn K (.ref fE) = true) (bE : Binds K dE ["count", "rows"] []) (zE : KBinds K dE ["count", "rows"] ["rows", "count"] swapU swapV) (mE : mg "earliest_with" = some (.ref fE))
    (GL : FnOk P w K mg base CX0 6 fL dL ["count", "rows"] (spFind C le)) (kL : PySem.W.keepIn K (.ref fL) = true) (bL : Binds K dL ["count", "rows"] []) (zL : KBinds K dL ["count", "rows"] ["rows", "count"] swapU swapV) (mL : mg "latest_with" = some (.ref fL))
    (T : Txt K mg C) : FnG P w K mg base 7 f fd ["_law_length", "_law_rows"] spPair := by
  have nd := scPair.nd
  refine okG F scPair (fun vs H Q E h => ?_) (fun cdv A outer s H vs Q E g0 hr h => ?_)
  · obtain ⟨n, a, xs, rows, rfl, _⟩ := h
    rfl
  · obtain ⟨n, a, xs, rows, rfl, n0, n1, R, h0, hm, B, q⟩ := h
    have hr2 : Room 2 _ := hr.mono (by decide)
    have hr3 : Room 3 _ := hr.mono (by decide)
    have hu := hr.units
    have GE : FnOk P w K mg base CX0 6 fE dE ["count", "rows"] (spFindI C gr) := GE.imp fun vs H Q E h => by
      unfold spFindI at h
      exact h
    have GL : FnOk P w K mg base CX0 6 fL dL ["count", "rows"] (spFindI C le) := GL.imp fun vs H Q E h => by
      unfold spFindI at h
      exact h
    have GT : FnOk P w K mg base CX0 2 fT dT ["_law_table"] (spToldI C) := GT.imp fun vs H Q E h => by
      unfold spToldI at h
      exact h
    have hne : rows ≠ [] := List.ne_nil_of_length_pos (by omega)
    obtain ⟨t1, t2, t3, t4⟩ := (told_of n0 n1 hne B).fits
    refine ⟨_, pss_cons (ps_set (i := 2) nd rfl (.inl rfl) (pe_call GU hr3 (by rfl) mU kU bU .nil pass0 (pa_cons (pv 0) (pa_cons (pv 1) pa_nil))))
      (pss_cons (ps_set (i := 3) nd rfl (.inl rfl) (pe_callTy call_list_of (by rfl) T.list boot_list (pa_cons (pv 1) pa_nil)))
      (pss_cons (ps_set (i := 4) nd rfl (.inl rfl) (pe_lst (pa_cons (pe_call GT hr2 (by rfl) mT kT bT .nil pass0 (pa_cons (pe_call GE hr (by rfl) mE kE bE .nil pass0 (pa_cons (pv 0) (pa_cons (pv 3) pa_nil))) pa_nil))
        (pa_cons (pe_call GT hr2 (by rfl) mT kT bT .nil pass0 (pa_cons (pe_call GL hr (by rfl) mL kL bL .nil pass0 (pa_cons (pv 0) (pa_cons (pv 3) pa_nil))) pa_nil)) pa_nil))))
      (pss_cons (ps_if (PW.pt (pw_or (pt_cmpR op_ne (pe_callB (call_reprD g0 hu) (by rfl) T.repr boot_repr (pa_cons (pv 4) pa_nil)) (pe_callB (call_reprD g0 hu) (by rfl) T.repr boot_repr (pa_cons (pv 2) pa_nil)) (nomark _))
          (pw_or1 (pt_cmpR (op_neD hu) (pv 3) (pv 1) (nomark _))))) (pss_one (ps_ret pe_bl)) pss_nil)
      (pss_cons (ps_set (i := 4) nd rfl (.inl rfl) (pe_lst (pa_cons (pe_call GT hr2 (by rfl) mT kT bT .nil pass0 (pa_cons (pe_callK0 GE hr (by rfl) mE kE zE (pk_cons (pe_callTy call_tuple_of (by rfl) T.tuple boot_tuple (pa_cons (pv 3) pa_nil)) (pk_cons (pv 0) pk_nil))) pa_nil))
        (pa_cons (pe_call GT hr2 (by rfl) mT kT bT .nil pass0 (pa_cons (pe_callK0 GL hr (by rfl) mL kL zL (pk_cons (pe_callTy call_tuple_of (by rfl) T.tuple boot_tuple (pa_cons (pv 3) pa_nil)) (pk_cons (pv 0) pk_nil))) pa_nil)) pa_nil))))
      (pss_one (ps_ret (pe_cmpR op_eq (pe_callB (call_reprD g0 hu) (by rfl) T.repr boot_repr (pa_cons (pv 4) pa_nil)) (pe_callB (call_reprD g0 hu) (by rfl) T.repr boot_repr (pa_cons (pv 2) pa_nil)) (nomark _)))))))), ?_⟩
    refine ⟨_, rfl, _, rfl, n, a, xs, rows, rfl, n0, n1, R, h0, hm, fun u H1 s1 hdue => ?_⟩
    have R1 := R.same s1
    refine ⟨_, rfl, a, _, rfl, .inl (SqL.of R1.at_), fun c nc => ?_⟩
    have s2 := same_new (o := .lst xs) nc
    have RC : RowsAt (upd H1 c (.lst xs)) true c xs rows := ⟨upd_same, R1.rows.same s2⟩
    have hdue := dp_same s2 _ _ hdue
    have R2 := R1.same s2
    -- told
    refine ⟨_, rfl, _, rfl, find_told n0 n1 RC h0 hm fun v1 H3 s3 tv1 => ?_⟩
    refine ⟨_, rfl, _, rfl, find_told n0 n1 (RC.same s3) h0 hm fun v2 H4 s4 tv2 => ?_⟩
    refine ⟨(by show 2 ≤ sizeLine; decide), fun t nt => ?_⟩
    have s5 := same_new (o := .lst [v1, v2]) nt
    have htold := told_dp (K := K) (tv1.same (s4.trans s5)) (tv2.same s5) upd_same
    have hdue := dp_same ((s3.trans s4).trans s5) _ _ hdue
    have RC5 := RC.same ((s3.trans s4).trans s5)
    have R5 := R2.same ((s3.trans s4).trans s5)
    generalize hH5 : upd H4 t (.lst [v1, v2]) = H5 at s5 htold hdue RC5 R5
    have sA : Same H H5 := ((((s1.trans s2).trans s3).trans s4).trans s5)
    refine ⟨_, rfl, t, _, rfl, htold, t1, t2, t3, t4, ?_⟩
    refine ⟨_, rfl, u, _, rfl, hdue, t1, t2, t3, t4, rfl, _, rfl, ?_⟩
    refine ifn_t rfl ?_
    have dc : Dp K H5 (.ref c) (dRows rows) := .lst (SqL.of RC5.at_) (dpAll_rows _ _ RC5.rows)
    have da : Dp K H5 (.ref a) (dRows rows) := .lst (SqL.of R5.at_) (dpAll_rows _ _ R5.rows)
    refine ⟨_, rfl, _, rfl, dRows rows, dRows rows, dc, da, shaped_rows _, shaped_rows _, _, rfl, ?_⟩
    rw [SeqAt.eqv_refl _ (SeqAt.canLay_of_shaped (shaped_rows rows))]
    refine iteF ?_
    -- told again, by keywords, of a tuple
    refine ⟨_, rfl, c, _, rfl, .inl ⟨SqL.of RC5.at_, fun d ndd => ?_⟩⟩
    have s6 := same_new (o := .tup xs) ndd
    have RD : RowsAt (upd H5 d (.tup xs)) false d xs rows := ⟨upd_same, RC5.rows.same s6⟩
    refine ⟨_, rfl, find_told n0 n1 RD h0 hm fun v3 H7 s7 tv3 => ?_⟩
    have RC7 := RC5.same (s6.trans s7)
    refine ⟨_, rfl, c, _, rfl, .inl ⟨SqL.of RC7.at_, fun d' ndd' => ?_⟩⟩
    have s8 := same_new (o := .tup xs) ndd'
    have RD' : RowsAt (upd H7 d' (.tup xs)) false d' xs rows := ⟨upd_same, RC7.rows.same s8⟩
    refine ⟨_, rfl, find_told n0 n1 RD' h0 hm fun v4 H9 s9 tv4 => ?_⟩
    refine ⟨(by show 2 ≤ sizeLine; decide), fun t' nt' => ?_⟩
    have s10 := same_new (o := .lst [v3, v4]) nt'
    have htold' := told_dp (K := K) (tv3.same ((s8.trans s9).trans s10)) (tv4.same s10) upd_same
    have s5' : Same H5 (upd H9 t' (.lst [v3, v4])) := (((s6.trans s7).trans s8).trans s9).trans s10
    have hdue' := dp_same s5' _ _ hdue
    refine ⟨_, rfl, t', _, rfl, htold', t1, t2, t3, t4, ?_⟩
    refine ⟨_, rfl, u, _, rfl, hdue', t1, t2, t3, t4, rfl, ?_⟩
    exact bl_t rfl (q _ (sA.trans s5'))
end
end K16
set_option maxRecDepth 100000
set_option maxHeartbeats 4000000
/-! Rows read off a rule; a rule drawn between two. -/
namespace K16
open PySem PySem.Spec PyProof.Rows L2
theorem rows_off {p l : Addr} {H : Hp} {vs xs : List V} {o : HO} {rows : List Row} (R : RowsV (cut p H) vs rows) (e : H l = some (.lst xs)) : RowsV (cut p (upd H l o)) vs rows := ⟨R.len, fun i r h => by
  obtain ⟨t, a, b⟩ := R.at_ i r h
  obtain ⟨nb, b2⟩ := cut_has b
  refine ⟨t, a, ?_⟩
  rw [cut_ne nb, upd_ne (ne_of b2 e (by intro z; cases z))]
  exact b2⟩
theorem RowsV.snoc {H : Hp} {vs : List V} {rows : List Row} (R : RowsV H vs rows) {t : Addr} {r : Row} (h : H t = some (.tup [.int r.1, .int r.2])) : RowsV H (vs ++ [.ref t]) (rows ++ [r]) := by
  refine ⟨by rw [List.length_append, List.length_append, R.len]; rfl, fun i q e => ?_⟩
  by_cases hi : i < rows.length
  · rw [List.getElem?_append_left hi] at e
    obtain ⟨u, a, b⟩ := R.at_ i q e
    exact ⟨u, by rw [List.getElem?_append_left (by rw [R.len]; exact hi)]; exact a, b⟩
  · rw [List.getElem?_append_right (by omega)] at e
    have h0 : i - rows.length = 0 := by
      cases z : i - rows.length with
      | zero => rfl
      | succ k =>
        rw [z] at e
        simp at e
    rw [h0] at e
    have e := Option.some.inj e
    subst e
    refine ⟨t, ?_, h⟩
    rw [List.getElem?_append_right (by rw [R.len]; omega), R.len, h0]
    rfl
theorem RowsAt.of_cut {p : Addr} {H : Hp} {b : Bool} {a : Addr} {vs : List V} {rows : List Row} (R : RowsAt (cut p H) b a vs rows) : RowsAt H b a vs rows := R.same (cut_same p H)
section
variable {P : Program} {w : World} {K : PySem.W.Frag} {mg : Str → Option Value} {base : Heap} {C f : Addr} {fd : FuncData}
def spRead : Sp := fun vs H Q _ => ∃ (p a : Addr) (days : List Int) (m : Nat), vs = [.ref p, .ref a, .int m] ∧ PotAt H p ∧ cut p H a = some (.lst (vi days)) ∧ 0 < days.length ∧ days.length ≤ 600 ∧ m ≤ 60 ∧
  ∀ (l : Addr) (H' : Hp) (xs : List V) (rows : List Row), Kp p H H' → H l = none → RowsAt (cut p H') true l xs rows → rows.length = m → (∀ r, r ∈ rows → onD days r.1 = r.2 ∧ -1000000 ≤ r.1 ∧ r.1 ≤ 1002400) → Q (.ref l) H'
theorem scRead : FnScope ["_law_pot_here", "_law_days_here", "_law_many", "_law_rows", "_law_turn", "_law_asked"] ["_law_pot_here", "_law_days_here", "_law_many"] (defScope sRead) := ⟨rfl, rfl, rfl, by decide +kernel, rfl, by decide +kernel, by decide +kernel⟩
theorem ok_read {fP fD fO : Addr} {dP dD dO : FuncData} (F : Fun K "_law_read" "_law_read" sRead f fd)
    (GP : FnOk P w K mg base CX0 2 fP dP ["_law_pot_here", "_law_some"] spPick) (kP : PySem.W.keepIn K (.ref fP) = true) (bP : Binds K dP ["_law_pot_here", "_law_some"] []) (mP : mg "_law_pick" = some (.ref fP))
    (GD : FnOk P w K mg base CX0 1 fD dD ["_law_pot_here", "_law_size"] spDraw) (kD : PySem.W.keepIn K (.ref fD) = true) (bD : Binds K dD ["_law_pot_here", "_law_size"] []) (mD : mg "_law_draw" = some (.ref fD))
    (GO : FnOk P w K mg base CX0 1 fO dO ["_law_days_here", "_law_day"] spLawOn) (kO : PySem.W.keepIn K (.ref fO) = true) (bO : Binds K dO ["_law_days_here", "_law_day"] []) (mO : mg "_law_on" = some (.ref fO))
    (T : Txt K mg C) : FnOk P w K mg base CX0 3 f fd ["_law_pot_here", "_law_days_here", "_law_many"] spRead := by
  have nd := scRead.nd
  refine F.ok scRead (fun vs H Q E h => ?_) (fun cdv A outer s H vs Q E hr h => ?_)
  · obtain ⟨p, a, days, m, rfl, _⟩ := h
    rfl
  · obtain ⟨p, a, days, m, rfl, hp, ha, n0, n1, hm, q⟩ := h
    have hr1 : Room 1 _ := hr.mono (by decide)
    have el : ((vi days).length : Int) = (days.length : Int) := by rw [List.length_map]
    refine ⟨_, pss_cons (ps_set (i := 3) nd rfl (.inl rfl) (pe_lst pa_nil))
      (pss_cons (ps_for PassesOwn.never rfl (pi_range1 (by rfl) T.range (pa_cons (pv 2) pa_nil)) (pg_name (i := 4) nd rfl (.inl rfl))
        (pss_cons (ps_set (i := 5) nd rfl (.inl rfl) (pe_op op_add
            (pe_call GP hr (by rfl) mP kP bP .nil pass0 (pa_cons (pv 0) (pa_cons (pe_lst (pa_cons pe_int (pa_cons (pe_callB call_len_seq (by rfl) T.len boot_len (pa_cons (pv 1) pa_nil)) (pa_cons (pe_un un_neg pe_int) (pa_cons (pe_op op_pow pe_int pe_int) (pa_cons (pe_op op_sub pe_int (pe_op op_pow pe_int pe_int)) pa_nil)))))) pa_nil)))
            (pe_call GD hr1 (by rfl) mD kD bD .nil pass0 (pa_cons (pv 0) (pa_cons (pe_op op_mul pe_int (pe_callB call_len_seq (by rfl) T.len boot_len (pa_cons (pv 1) pa_nil))) pa_nil)))))
        (pss_one (ps_expr (pe_bm PySem.F.plainAttrs_list PySem.F.slot_list_append PySem.F.type_list_append mt_append (pv 3) (pa_cons (pe_tup (pa_cons (pv 5) (pa_cons (pe_call GO hr1 (by rfl) mO kO bO .nil pass0 (pa_cons (pv 1) (pa_cons (pv 5) pa_nil))) pa_nil))) pa_nil))))))
      (pss_one (ps_ret (pv 3)))), ?_⟩
    refine ⟨Nat.zero_le _, fun l nl => ?_⟩
    have nlp := hp.ne nl
    refine ⟨_, rfl, _, rfl, by omega, by omega, ?_⟩
    refine for_range (fun i σ H2 => ∃ (xs : List V) (rows : List Row) (y4 y5 : Option V), σ = [some (.ref p), some (.ref a), some (.int m), some (.ref l), y4, y5] ∧ Kp p H H2 ∧ H2 l = some (.lst xs) ∧ RowsV (cut p H2) xs rows ∧ rows.length = i ∧
      ∀ r, r ∈ rows → onD days r.1 = r.2 ∧ -1000000 ≤ r.1 ∧ r.1 ≤ 1002400) ⟨[], [], none, none, rfl, Kp.new hp nl, upd_same, ⟨rfl, fun i r h => by simp at h⟩, rfl, fun r hr => by cases hr⟩ (fun i σ H2 hi hP => ?_) fun σ H2 hP => ?_
    · obtain ⟨xs, rows, y4, y5, rfl, k2, hl2, R2, hlen, hrows⟩ := hP
      have ha2 := (cut_has (k2.same _ _ ha)).2
      refine ⟨_, rfl, _, rfl, a, _, rfl, .inl (SqL.of ha2), 1, rfl, _, _, rfl, rfl, ⟨by decide, by decide, by decide⟩, _, _, rfl, rfl, ⟨by decide, by decide, by decide⟩, _, _, rfl, rfl, (by show 5 ≤ sizeLine; decide), fun b nb => ?_⟩
      have nbp := k2.pot.ne nb
      have s3 := same_new (o := .lst (vi [0, ((vi days).length : Int), -1, 10 ^ 6, 0 - 10 ^ 6])) nb
      have p3 := k2.pot.same s3
      refine ⟨p, b, [0, ((vi days).length : Int), -1, 10 ^ 6, 0 - 10 ^ 6], rfl, p3, ?_, (by show 0 < 5; decide), (by show 5 ≤ 1000; decide), fun j H4 hj k4 => ?_⟩
      · rw [cut_ne nbp]
        exact upd_same
      · have k24 : Kp p H2 H4 := (Kp.of k2.pot s3).trans k4
        have xb : -1000000 ≤ ([0, ((vi days).length : Int), -1, 10 ^ 6, 0 - 10 ^ 6] : List Int).getD j 0 ∧ ([0, ((vi days).length : Int), -1, 10 ^ 6, 0 - 10 ^ 6] : List Int).getD j 0 ≤ 1000000 := by
          have all : ∀ y, y ∈ ([0, ((vi days).length : Int), -1, 10 ^ 6, 0 - 10 ^ 6] : List Int) → -1000000 ≤ y ∧ y ≤ 1000000 := fun y hy => by
            rw [el] at hy
            simp only [List.mem_cons, List.not_mem_nil, or_false] at hy
            rcases hy with h | h | h | h | h
            · omega
            · omega
            · omega
            · rw [h]
              decide
            · rw [h]
              decide
          exact all _ (getD_mem hj)
        generalize ([0, ((vi days).length : Int), -1, 10 ^ 6, 0 - 10 ^ 6] : List Int).getD j 0 = x at xb
        have ha4 := (cut_has (k24.same _ _ (k2.same _ _ ha))).2
        refine ⟨_, rfl, _, rfl, a, _, rfl, .inl (SqL.of ha4), _, _, rfl, rfl, .inl ⟨by decide, by decide⟩, p, _, rfl, by omega, by omega, k24.pot, fun d H5 d0 d1 k5 => ?_⟩
        have k25 := k24.trans k5
        have ha5 := (cut_has (k25.same _ _ (k2.same _ _ ha))).2
        have hl5 := k25.at_ hl2 nlp
        have R5 : RowsV (cut p H5) xs rows := R2.same k25.same
        refine ⟨_, _, rfl, rfl, ?_⟩
        refine ⟨_, rfl, .inl ⟨rfl, _, SqL.of hl5⟩, _, rfl, _, rfl, _, rfl, a, days, _, rfl, ha5, n0, n1, (by show 2 ≤ sizeLine; decide), fun t nt => ?_⟩
        have s6 := same_new (o := .tup [.int (x + d), .int (onD days (x + d))]) nt
        have hl6 := s6 _ _ hl5
        have k26 : Kp p H2 _ := k25.trans (Kp.of k25.pot s6)
        have ntp := k25.pot.ne nt
        have R6 := (R5.same (same_cut s6)).snoc (r := (x + d, onD days (x + d))) (t := t) (by rw [cut_ne ntp]; exact upd_same)
        refine ⟨l, _, _, rfl, rfl, hl6, ?_, ?_⟩
        · rw [R5.len]
          exact small1000 (by omega)
        · refine ⟨_, rows ++ [(x + d, onD days (x + d))], _, _, rfl, (k2.trans k26).off nl nlp, upd_same, rows_off R6 hl6, by rw [List.length_append, hlen]; rfl, fun r hr => ?_⟩
          rcases List.mem_append.mp hr with hr | hr
          · exact hrows r hr
          · have e : r = (x + d, onD days (x + d)) := by simpa using hr
            subst e
            refine ⟨rfl, ?_, ?_⟩
            · show -1000000 ≤ x + d
              omega
            · show x + d ≤ 1002400
              omega
    · obtain ⟨xs, rows, y4, y5, rfl, k2, hl2, R2, hlen, hrows⟩ := hP
      refine ⟨_, rfl, q l H2 xs rows k2 nl ⟨?_, R2⟩ (by omega) hrows⟩
      rw [cut_ne nlp]
      exact hl2
theorem eqv_nil {l : List Int} : PyData.eqv (dInts l) (dInts []) = decide (l = []) := by
  cases l with
  | nil => simp [dInts, PyData.eqv, PyData.eqvAll]
  | cons x r => simp [dInts, PyData.eqv, PyData.eqvAll]
def spBetween : Sp := fun vs H Q _ => ∃ (p ea la : Addr) (eD lD : List Int) (n : Nat), vs = [.ref p, .ref ea, .ref la, .int n] ∧ PotAt H p ∧ cut p H ea = some (.lst (vi eD)) ∧ cut p H la = some (.lst (vi lD)) ∧ IsTab eD ∧ IsTab lD ∧ eD.length = n ∧ lD.length = n ∧
  (∀ i, i < n → eD.getD i 0 ≤ lD.getD i 0) ∧ ∀ (l : Addr) (H' : Hp) (ds : List Int), Kp p H H' → H l = none → H' l = some (.lst (vi ds)) → ds.length = n → IsTab ds → (∀ i, i < n → eD.getD i 0 ≤ ds.getD i 0 ∧ ds.getD i 0 ≤ lD.getD i 0) → Q (.ref l) H'
theorem scBetween : FnScope ["_law_pot_here", "_law_early_here", "_law_late_here", "_law_length", "_law_found", "_law_day", "_law_least", "_law_most"] ["_law_pot_here", "_law_early_here", "_law_late_here", "_law_length"] (defScope sBetween) := ⟨rfl, rfl, rfl, by decide +kernel, rfl, by decide +kernel, by decide +kernel⟩
theorem ok_between {fD : Addr} {dD : FuncData} (F : Fun K "_law_between" "_law_between" sBetween f fd)
    (GD : FnOk P w K mg base CX0 1 fD dD ["_law_pot_here", "_law_size"] spDraw) (kD : PySem.W.keepIn K (.ref fD) = true) (bD : Binds K dD ["_law_pot_here", "_law_size"] []) (mD : mg "_law_draw" = some (.ref fD))
    (T : Txt K mg C) : FnOk P w K mg base CX0 2 f fd ["_law_pot_here", "_law_early_here", "_law_late_here", "_law_length"] spBetween := by
  have nd := scBetween.nd
  refine F.ok scBetween (fun vs H Q E h => ?_) (fun cdv A outer s H vs Q E hr h => ?_)
  · obtain ⟨p, ea, la, eD, lD, n, rfl, _⟩ := h
    rfl
  · obtain ⟨p, ea, la, eD, lD, n, rfl, hp, he, hl, tE, tL, ne, nl, hle, q⟩ := h
    have hu := hr.units
    have n0 := tE.pos
    have n1 := tE.most
    refine ⟨_, pss_cons (ps_set (i := 4) nd rfl (.inl rfl) (pe_lst pa_nil))
      (pss_cons (ps_for PassesOwn.never rfl (pi_range1 (by rfl) T.range (pa_cons (pv 3) pa_nil)) (pg_name (i := 5) nd rfl (.inl rfl))
        (pss_cons (ps_set (i := 6) nd rfl (.inl rfl) (pe_ifExp (pt_cmpR (op_eqD hu) (pv 4) (pe_lst pa_nil) (nomark _)) (pe_ix ix_list (pv 1) (pv 5) (fun _ _ => rfl)) (pe_callB (call_max2 rfl) (by rfl) T.max boot_max (pa_cons (pe_ix ix_list (pv 1) (pv 5) (fun _ _ => rfl)) (pa_cons (pe_ix ix_list (pv 4) (pe_un un_neg pe_int) (fun _ _ => rfl)) pa_nil)))))
        (pss_cons (ps_set (i := 7) nd rfl (.inl rfl) (pe_ifExp (pt_cmpR (op_eqD hu) (pv 4) (pe_lst pa_nil) (nomark _)) (pe_ix ix_list (pv 2) (pv 5) (fun _ _ => rfl)) (pe_callB (call_min2 rfl) (by rfl) T.min boot_min (pa_cons (pe_ix ix_list (pv 2) (pv 5) (fun _ _ => rfl)) (pa_cons (pe_op op_add (pe_ix ix_list (pv 4) pe_int (fun _ _ => rfl)) (pv 3)) pa_nil)))))
        (pss_one (ps_expr (pe_bm PySem.F.plainAttrs_list PySem.F.slot_list_append PySem.F.type_list_append mt_append (pv 4) (pa_cons (pe_op op_add (pv 6) (pe_call GD hr (by rfl) mD kD bD .nil pass0 (pa_cons (pv 0) (pa_cons (pe_callB (call_max2 rfl) (by rfl) T.max boot_max (pa_cons pe_int (pa_cons (pe_callB (call_min2 rfl) (by rfl) T.min boot_min (pa_cons pe_int (pa_cons (pe_op op_add (pe_op op_sub (pv 7) (pv 6)) pe_int) pa_nil))) pa_nil))) pa_nil)))) pa_nil)))))))
      (pss_one (ps_ret (pv 4)))), ?_⟩
    refine ⟨Nat.zero_le _, fun l nll => ?_⟩
    have nlp := hp.ne nll
    refine ⟨_, rfl, _, rfl, by omega, by omega, ?_⟩
    refine for_range (fun i σ H2 => ∃ (ds : List Int) (y5 y6 y7 : Option V), σ = [some (.ref p), some (.ref ea), some (.ref la), some (.int n), some (.ref l), y5, y6, y7] ∧ Kp p H H2 ∧ H2 l = some (.lst (vi ds)) ∧ ds.length = i ∧
      (∀ j, j < i → eD.getD j 0 ≤ ds.getD j 0 ∧ ds.getD j 0 ≤ lD.getD j 0 ∧ ds.getD j 0 ≤ ds.getD 0 0 + n) ∧ ∀ j, j + 1 < i → ds.getD j 0 ≤ ds.getD (j + 1) 0) ⟨[], none, none, none, rfl, Kp.new hp nll, upd_same, rfl, fun j hj => absurd hj (Nat.not_lt_zero _), fun j hj => absurd hj (Nat.not_lt_zero _)⟩ (fun i σ H2 hi hP => ?_) fun σ H2 hP => ?_
    · obtain ⟨ds, y5, y6, y7, rfl, k2, hl2, hlen, hb, up⟩ := hP
      have hin : i < n := by omega
      have he2 := (cut_has (k2.same _ _ he)).2
      have hq2 := (cut_has (k2.same _ _ hl)).2
      -- what follows once the least and the most are known
      have rest : ∀ (lo hi' : Int) (H3 : Hp), Same H2 H3 → lo ≤ hi' → eD.getD i 0 ≤ lo → hi' ≤ lD.getD i 0 → (0 < i → ds.getD (i - 1) 0 ≤ lo ∧ hi' ≤ ds.getD 0 0 + n) → ∀ (D : Ends),
          (∀ (σ : L2.St) (H4 : Hp), (∃ (ds : List Int) (y5 y6 y7 : Option V), σ = [some (.ref p), some (.ref ea), some (.ref la), some (.int n), some (.ref l), y5, y6, y7] ∧ Kp p H H4 ∧ H4 l = some (.lst (vi ds)) ∧ ds.length = i + 1 ∧
            (∀ j, j < i + 1 → eD.getD j 0 ≤ ds.getD j 0 ∧ ds.getD j 0 ≤ lD.getD j 0 ∧ ds.getD j 0 ≤ ds.getD 0 0 + n) ∧ ∀ j, j + 1 < i + 1 → ds.getD j 0 ≤ ds.getD (j + 1) 0) → D.nx σ H4) →
          (tDrop (tBM K "list" rAppend (tVar 4) (tCons (tOp (rI0 fun i j => .int (i + j)) (tVar 6) (tCall spDraw [] E0 (tCons (tVar 0) (tCons (tCB (fun xs H Q => ∃ i j, xs = [.int i, .int j] ∧ Q (.int (if j > i then j else i)) H) (tCons (tC (.int 1)) (tCons (tCB (fun xs H Q => ∃ i j, xs = [.int i, .int j] ∧ Q (.int (if j < i then j else i)) H)
            (tCons (tC (.int 4)) (tCons (tOp (rI0 fun i j => .int (i + j)) (tOp (rI0 fun i j => .int (i - j)) (tVar 7) (tVar 6)) (tC (.int 1))) tNil))) tNil))) tNil)))) tNil))) D [some (.ref p), some (.ref ea), some (.ref la), some (.int n), some (.ref l), some (.int (0 + (i : Int))), some (.int lo), some (.int hi')] H3 := by
        intro lo hi' H3 s3 h1 h2 h3 h4 D hD
        have k3 : Kp p H2 H3 := Kp.of k2.pot s3
        have hl3 := s3 _ _ hl2
        have size : ∃ z : Int, (if (if hi' - lo + 1 < 4 then hi' - lo + 1 else 4) > 1 then (if hi' - lo + 1 < 4 then hi' - lo + 1 else 4) else 1) = z ∧ 0 < z ∧ z ≤ 4 ∧ z ≤ hi' - lo + 1 := by
          refine ⟨_, rfl, ?_, ?_, ?_⟩
          · split <;> omega
          · split <;> split <;> omega
          · split <;> split <;> omega
        obtain ⟨z, ez, z0, z4, zm⟩ := size
        refine ⟨_, rfl, .inl ⟨rfl, _, SqL.of hl3⟩, _, rfl, _, rfl, _, rfl, _, rfl, _, _, rfl, rfl, _, _, rfl, rfl, _, _, rfl, ?_⟩
        refine ⟨1, _, rfl, ?_⟩
        refine ⟨p, z, (by rw [← ez]; rfl), z0, by omega, k3.pot, fun d H4 d0 d1 k4 => ?_⟩
        have k24 := k3.trans k4
        have hl4 := k24.at_ hl2 nlp
        refine ⟨_, _, rfl, rfl, l, _, _, rfl, rfl, hl4, ?_, ?_⟩
        · rw [List.length_map]
          exact small1000 (by omega)
        refine hD _ _ ⟨ds ++ [lo + d], _, _, _, rfl, (k2.trans k24).off nll nlp, ?_, by rw [List.length_append, hlen]; rfl, fun j hj => ?_, fun j hj => ?_⟩
        · rw [upd_same]
          unfold vi
          rw [List.map_append]
          rfl
        · rw [getD_snoc, getD_snoc]
          by_cases e : j < ds.length
          · obtain ⟨a, b, c⟩ := hb j (by omega)
            rw [if_pos e, if_pos (by omega)]
            exact ⟨a, b, c⟩
          · have ej : j = i := by omega
            rw [if_neg e, if_pos (by omega), ej]
            refine ⟨by omega, by omega, ?_⟩
            by_cases e0 : 0 < ds.length
            · rw [if_pos e0]
              have := (h4 (by omega)).2
              omega
            · rw [if_neg e0, if_pos (by omega)]
              omega
        · rw [getD_snoc, getD_snoc, if_pos (by omega)]
          by_cases e : j + 1 < ds.length
          · rw [if_pos e]
            exact up j (by omega)
          · rw [if_neg e, if_pos (by omega)]
            have := (h4 (by omega)).1
            rw [show i - 1 = j by omega] at this
            omega
      refine ⟨_, rfl, Nat.zero_le _, fun b nb => ?_⟩
      have s3 := same_new (o := .lst (vi [])) nb
      refine ⟨dInts ds, dInts [], dp_ints (s3 _ _ hl2), dp_ints upd_same, shaped_ints _, shaped_ints _, _, rfl, ?_⟩
      rw [eqv_nil]
      have hei : eD.getD i 0 ≤ lD.getD i 0 := hle i hin
      by_cases e0 : ds = []
      · have i0 : i = 0 := by
          rw [← hlen, e0]
          rfl
        refine if_t e0 ?_
        refine ⟨_, rfl, _, rfl, ea, _, _, _, rfl, rfl, SqL.of (s3 _ _ he2), vi_atI (i := i) (by omega) (by omega), ?_⟩
        refine ⟨_, rfl, Nat.zero_le _, fun b' nb' => ?_⟩
        have s4 := same_new (o := .lst (vi [])) nb'
        have s34 := s3.trans s4
        refine ⟨dInts ds, dInts [], dp_ints (s34 _ _ hl2), dp_ints upd_same, shaped_ints _, shaped_ints _, _, rfl, ?_⟩
        rw [eqv_nil]
        refine if_t e0 ?_
        refine ⟨_, rfl, _, rfl, la, _, _, _, rfl, rfl, SqL.of (s34 _ _ hq2), vi_atI (i := i) (by omega) (by omega), ?_⟩
        exact rest _ _ _ s34 hei (Int.le_refl _) (Int.le_refl _) (fun h => absurd h (by omega)) _ fun σ H4 h => h
      · have i0 : 0 < i := by
          have := List.length_pos_iff.mpr e0
          omega
        refine if_f e0 ?_
        refine ⟨_, rfl, _, rfl, ea, _, _, _, rfl, rfl, SqL.of (s3 _ _ he2), vi_atI (i := i) (by omega) (by omega), ?_⟩
        refine ⟨_, rfl, 1, rfl, l, _, _, _, rfl, rfl, SqL.of (s3 _ _ hl2), vi_last (by omega), _, _, rfl, ?_⟩
        refine ⟨_, rfl, Nat.zero_le _, fun b' nb' => ?_⟩
        have s4 := same_new (o := .lst (vi [])) nb'
        have s34 := s3.trans s4
        refine ⟨dInts ds, dInts [], dp_ints (s34 _ _ hl2), dp_ints upd_same, shaped_ints _, shaped_ints _, _, rfl, ?_⟩
        rw [eqv_nil]
        refine if_f e0 ?_
        refine ⟨_, rfl, _, rfl, la, _, _, _, rfl, rfl, SqL.of (s34 _ _ hq2), vi_atI (i := i) (by omega) (by omega), ?_⟩
        refine ⟨_, rfl, l, _, _, _, rfl, rfl, SqL.of (s34 _ _ hl2), vi_atI (i := 0) rfl (by omega), _, rfl, _, _, rfl, rfl, _, _, rfl, ?_⟩
        have b1 := hb (i - 1) (by omega)
        have b0 := hb 0 (by omega)
        have tl := tL.le' (i := i - 1) (j := i) (by omega) (by omega)
        have te := tE.last
        have te2 := tE.le' (i := i) (j := eD.length - 1) (by omega) (by omega)
        rw [ne] at te te2
        have elast : ds.length - 1 = i - 1 := by omega
        have lo_eq : ∃ lo : Int, (if ds.getD (ds.length - 1) 0 > eD.getD i 0 then ds.getD (ds.length - 1) 0 else eD.getD i 0) = lo ∧ eD.getD i 0 ≤ lo ∧ ds.getD (i - 1) 0 ≤ lo ∧ (lo = ds.getD (i - 1) 0 ∨ lo = eD.getD i 0) := by
          rw [elast]
          refine ⟨_, rfl, ?_⟩
          split <;> omega
        have hi_eq : ∃ h : Int, (if ds.getD 0 0 + (n : Int) < lD.getD i 0 then ds.getD 0 0 + (n : Int) else lD.getD i 0) = h ∧ h ≤ lD.getD i 0 ∧ h ≤ ds.getD 0 0 + n ∧ (h = ds.getD 0 0 + n ∨ h = lD.getD i 0) := by
          refine ⟨_, rfl, ?_⟩
          split <;> omega
        obtain ⟨lo, elo, lo1, lo2, lo3⟩ := lo_eq
        obtain ⟨h', eh, h1, h2, h3⟩ := hi_eq
        have go := rest lo h' _ s34 (by omega) lo1 h1 (fun _ => ⟨lo2, h2⟩)
        rw [← elo, ← eh] at go
        exact go _ fun σ H4 h => h
    · obtain ⟨ds, y5, y6, y7, rfl, k2, hl2, hlen, hb, up⟩ := hP
      have en : ((n : Int)).toNat = n := by omega
      rw [en] at hlen hb up
      have tab : IsTab ds := ⟨by omega, by omega, fun i hi => up i (by omega), by rw [hlen]; exact (hb (n - 1) (by omega)).2.2⟩
      exact ⟨_, rfl, q l H2 ds k2 nll hl2 hlen tab fun i hi => ⟨(hb i hi).1, (hb i hi).2.1⟩⟩
end
end K16
set_option maxRecDepth 100000
set_option maxHeartbeats 4000000
/-! The hidden rule lies between. -/
namespace K16
open PySem PySem.Spec PyProof.Rows L2
theorem TabAt.of_cut {C p q : Addr} {H : Hp} {days : List Int} (t : TabAt C (cut p H) q days) : TabAt C H q days := t.same (cut_same p H)
theorem RowsV.append {H : Hp} {vs us : List V} {rows more : List Row} (R : RowsV H vs rows) (M : RowsV H us more) : RowsV H (vs ++ us) (rows ++ more) := by
  refine ⟨by rw [List.length_append, List.length_append, R.len, M.len], fun i r e => ?_⟩
  by_cases hi : i < rows.length
  · rw [List.getElem?_append_left hi] at e
    obtain ⟨t, a, b⟩ := R.at_ i r e
    exact ⟨t, by rw [List.getElem?_append_left (by rw [R.len]; exact hi)]; exact a, b⟩
  · rw [List.getElem?_append_right (by omega)] at e
    obtain ⟨t, a, b⟩ := M.at_ _ r e
    exact ⟨t, by rw [List.getElem?_append_right (by rw [R.len]; omega), R.len]; exact a, b⟩
theorem on_mono {d e : List Int} (el : d.length = e.length) (h0 : 0 < d.length) (h : ∀ i, i < d.length → d.getD i 0 ≤ e.getD i 0) (x : Int) : onD d x ≤ onD e x := by
  unfold onD
  rw [← el]
  have a := Int.emod_nonneg x (show (d.length : Int) ≠ 0 by omega)
  have b := Int.emod_lt_of_pos x (show (0 : Int) < d.length by omega)
  have := h (x % d.length).toNat (by omega)
  omega
section
variable {P : Program} {w : World} {K : PySem.W.Frag} {mg : Str → Option Value} {base : Heap} {C f : Addr} {fd : FuncData}
def spHidden (C : Addr) : Sp := fun vs H Q _ => ∃ (p a b : Addr) (days : List Int) (xs : List V) (rows : List Row), vs = [.ref p, .ref a, .ref b] ∧ PotAt H p ∧ cut p H a = some (.lst (vi days)) ∧ IsTab days ∧ RowsAt (cut p H) true b xs rows ∧ 1 ≤ rows.length ∧ rows.length ≤ 59 ∧
  (∀ r, r ∈ rows → onD days r.1 = r.2) ∧ ∀ H', Kp p H H' → Q (.bl true) H'
abbrev nHidden : List Str := ["_law_pot_here", "_law_days_here", "_law_rows", "_law_length", "_law_early_here", "_law_late_here", "_law_table", "_law_hidden", "_law_drawn", "_law_more", "_law_nearer", "_law_farther", "_law_row", "_law_at"]
theorem scHidden : FnScope nHidden ["_law_pot_here", "_law_days_here", "_law_rows"] (defScope sHidden) := ⟨rfl, rfl, rfl, by decide +kernel, rfl, by decide +kernel, by decide +kernel⟩
theorem ok_hidden {fE fL fO fI fF fD fB fV fR : Addr} {dE dL dO dI dF dD dB dV dR : FuncData} (F : Fun K "_law_hidden_right" "_law_hidden_right" sHidden f fd)
    (GE : FnOk P w K mg base CX0 6 fE dE ["count", "rows"] (spFind C gr)) (kE : PySem.W.keepIn K (.ref fE) = true) (bE : Binds K dE ["count", "rows"] []) (mE : mg "earliest_with" = some (.ref fE))
    (GL : FnOk P w K mg base CX0 6 fL dL ["count", "rows"] (spFind C le)) (kL : PySem.W.keepIn K (.ref fL) = true) (bL : Binds K dL ["count", "rows"] []) (mL : mg "latest_with" = some (.ref fL))
    (GO : FnOk P w K mg base CX0 4 fO dO ["self", "day"] (spOn C)) (bO : Binds K dO ["self", "day"] []) (mO : Meth K C "on" fO)
    (M : Mk K C fI) (GI : FnOk P w K mg base CX0 4 fI dI ["self", "days"] (spInit C)) (bI : Binds K dI ["self", "days"] [])
    (GF : FnOk P w K mg base CX0 5 fF dF ["table", "other_table"] (spFirst C)) (kF : PySem.W.keepIn K (.ref fF) = true) (bF : Binds K dF ["table", "other_table"] []) (mF : mg "first_above" = some (.ref fF))
    (GD : FnOk P w K mg base CX0 1 fD dD ["self"] (spDays C)) (bD : Binds K dD ["self"] []) (mD : Meth K C "days" fD)
    (GB : FnOk P w K mg base CX0 2 fB dB ["_law_pot_here", "_law_early_here", "_law_late_here", "_law_length"] spBetween) (kB : PySem.W.keepIn K (.ref fB) = true) (bB : Binds K dB ["_law_pot_here", "_law_early_here", "_law_late_here", "_law_length"] []) (mB : mg "_law_between" = some (.ref fB))
    (GV : FnOk P w K mg base CX0 1 fV dV ["_law_days_here", "_law_day"] spLawOn) (kV : PySem.W.keepIn K (.ref fV) = true) (bV : Binds K dV ["_law_days_here", "_law_day"] []) (mV : mg "_law_on" = some (.ref fV))
    (GR : FnOk P w K mg base CX0 3 fR dR ["_law_pot_here", "_law_days_here", "_law_many"] spRead) (kR : PySem.W.keepIn K (.ref fR) = true) (bR : Binds K dR ["_law_pot_here", "_law_days_here", "_law_many"] []) (mR : mg "_law_read" = some (.ref fR))
    (T : Txt K mg C) : FnOk P w K mg base CX0 7 f fd ["_law_pot_here", "_law_days_here", "_law_rows"] (spHidden C) := by
  have nd := scHidden.nd
  refine F.ok scHidden (fun vs H Q E h => ?_) (fun cdv A outer s H vs Q E hr h => ?_)
  · obtain ⟨p, a, b, days, xs, rows, rfl, _⟩ := h
    rfl
  · obtain ⟨p, a, b, days, xs, rows, rfl, hp, ha, tab0, R, h0, hm, hrows, q⟩ := h
    have hr1 : Room 1 _ := hr.mono (by decide)
    have hr2 : Room 2 _ := hr.mono (by decide)
    have hr3 : Room 3 _ := hr.mono (by decide)
    have hr4 : Room 4 _ := hr.mono (by decide)
    have hr5 : Room 5 _ := hr.mono (by decide)
    have n0 := tab0.pos
    have n1 := tab0.most
    have hn : (0 : Int) < (days.length : Int) := by omega
    have hne : rows ≠ [] := List.ne_nil_of_length_pos (by omega)
    have hk : Kept (days.length : Nat) rows := kept_rule hn tab0.rule hrows
    have hxl := R.rows.len
    have RE := gr_rule (n := (days.length : Int)) hn hne
    have RL := le_rule (n := (days.length : Int)) hn hne
    have tE := tab_is n0 n1 RE
    have tL := tab_is n0 n1 RL
    have lE : (tab days.length (gr days.length rows)).length = days.length := tab_len _ _
    have lL : (tab days.length (le days.length rows)).length = days.length := tab_len _ _
    have dE' : ∀ i, i < days.length → (tab days.length (gr days.length rows)).getD i 0 ≤ days.getD i 0 := fun i hi => by
      rw [tab_getD hi, ← onD_at hi]
      exact gr_rule_le hn tab0.rule hne hrows _
    have dL' : ∀ i, i < days.length → days.getD i 0 ≤ (tab days.length (le days.length rows)).getD i 0 := fun i hi => by
      rw [tab_getD hi, ← onD_at hi]
      exact le_rule_le hn tab0.rule hne hrows _
    have oE : ∀ r, r ∈ rows → onD (tab days.length (gr days.length rows)) r.1 = r.2 := fun r hr => by
      rw [tab_on n0 RE]
      exact gr_row hk hr
    have oL : ∀ r, r ∈ rows → onD (tab days.length (le days.length rows)) r.1 = r.2 := fun r hr => by
      rw [tab_on n0 RL]
      exact le_row hk hr
    refine ⟨_, pss_cons (ps_set (i := 3) nd rfl (.inl rfl) (pe_callB call_len_seq (by rfl) T.len boot_len (pa_cons (pv 1) pa_nil)))
      (pss_cons (ps_par (i := 4) (j := 5) (by rfl) nd rfl rfl (by decide) rfl rfl (pa_cons (pe_call GE hr (by rfl) mE kE bE .nil pass0 (pa_cons (pv 3) (pa_cons (pv 2) pa_nil))) (pa_cons (pe_call GL hr (by rfl) mL kL bL .nil pass0 (pa_cons (pv 3) (pa_cons (pv 2) pa_nil))) pa_nil)) (by rfl))
      (pss_cons (ps_if (PW.pt (pw_or (pt_cmpR op_isN (pv 4) pe_non (nomark _)) (pw_or1 (pt_cmpR op_isN (pv 5) pe_non (nomark _))))) (pss_one (ps_ret pe_bl)) pss_nil)
      (pss_cons (ps_for PassesOwn.never rfl (pi_list (pe_lst (pa_cons (pv 4) (pa_cons (pv 5) pa_nil)))) (pg_name (i := 6) nd rfl (.inr rfl))
        (pss_one (ps_if (pt_not (pt_val (pe_callB (cr_all rfl) (by rfl) T.all boot_all (pa_cons (pe_lc (own := [("_law_row", 12)]) (g := gName 12) (tt := tYes) rfl nd (pi_list (pv 2)) (blkOk_by (N := nHidden) (sc := defScope sHidden) (by decide +kernel))
            (fun _ _ _ _ _ => pg_name (i := 12) nd rfl (.inl rfl)) (fun _ _ _ _ _ => pts_nil) (fun _ _ _ _ _ => pe_cmpR op_eq (pe_meth (pv 6) T.cl mO GO hr4 bO .nil pass0 (pa_cons (pe_ix (r := rIxT K) ix_tup (pv 12) pe_int (fun _ _ => rfl)) pa_nil)) (pe_ix (r := rIxT K) ix_tup (pv 12) pe_int (fun _ _ => rfl)) (nomark _))) pa_nil)))) (pss_one (ps_ret pe_bl)) pss_nil)))
      (pss_cons (ps_set (i := 7) nd rfl (.inl rfl) (pe_make M GI hr5 (by rfl) T.mgC bI .nil pass0 (pa_cons (pv 1) pa_nil)))
      (pss_cons (ps_if (PW.pt (pw_or (pt_cmpR op_notN (pe_call GF hr5 (by rfl) mF kF bF .nil pass0 (pa_cons (pv 4) (pa_cons (pv 7) pa_nil))) pe_non (nomark _)) (pw_or1 (pt_cmpR op_notN (pe_call GF hr5 (by rfl) mF kF bF .nil pass0 (pa_cons (pv 7) (pa_cons (pv 5) pa_nil))) pe_non (nomark _))))) (pss_one (ps_ret pe_bl)) pss_nil)
      (pss_cons (ps_set (i := 8) nd rfl (.inr rfl) (pe_call GB hr2 (by rfl) mB kB bB .nil pass0 (pa_cons (pv 0) (pa_cons (pe_meth0 (pv 4) T.cl mD GD hr1 bD .nil pass0) (pa_cons (pe_meth0 (pv 5) T.cl mD GD hr1 bD .nil pass0) (pa_cons (pv 3) pa_nil))))))
      (pss_cons (ps_if (PW.pt (pw_and (pt_val (pe_callB (cr_all rfl) (by rfl) T.all boot_all (pa_cons (pe_lc (own := [("_law_at", 13)]) (g := gName 13) (tt := tYes) rfl nd (pi_range1 (by rfl) T.range (pa_cons (pe_op op_sub (pv 3) pe_int) pa_nil)) (blkOk_by (N := nHidden) (sc := defScope sHidden) (by decide +kernel))
            (fun _ _ _ _ _ => pg_name (i := 13) nd rfl (.inl rfl)) (fun _ _ _ _ _ => pts_nil) (fun _ _ _ _ _ => pe_cmpR op_le (pe_ix (r := rIxL K) ix_list (pv 8) (pv 13) (fun _ _ => rfl)) (pe_ix (r := rIxL K) ix_list (pv 8) (pe_op op_add (pv 13) pe_int) (fun _ _ => rfl)) (nomark _))) pa_nil)))
          (pw_and1 (pt_cmpR op_le (pe_ix ix_list (pv 8) (pe_un un_neg pe_int) (fun _ _ => rfl)) (pe_op op_add (pe_ix ix_list (pv 8) pe_int (fun _ _ => rfl)) (pv 3)) (nomark _)))))
        (pss_cons (ps_if (pt_not (pt_val (pe_callB (cr_all rfl) (by rfl) T.all boot_all (pa_cons (pe_lc (own := [("_law_row", 12)]) (g := gName 12) (tt := tYes) rfl nd (pi_list (pv 2)) (blkOk_by (N := nHidden) (sc := defScope sHidden) (by decide +kernel))
            (fun _ _ _ _ _ => pg_name (i := 12) nd rfl (.inl rfl)) (fun _ _ _ _ _ => pts_nil) (fun _ _ _ _ _ => pe_cmpR op_eq (pe_call GV hr1 (by rfl) mV kV bV .nil pass0 (pa_cons (pv 8) (pa_cons (pe_ix (r := rIxT K) ix_tup (pv 12) pe_int (fun _ _ => rfl)) pa_nil))) (pe_ix (r := rIxT K) ix_tup (pv 12) pe_int (fun _ _ => rfl)) (nomark _))) pa_nil)))) (pss_one (ps_ret pe_bl)) pss_nil)
        (pss_one (ps_if (PW.pt (pw_or (pt_cmpR op_notN (pe_call GF hr5 (by rfl) mF kF bF .nil pass0 (pa_cons (pv 4) (pa_cons (pe_make M GI hr5 (by rfl) T.mgC bI .nil pass0 (pa_cons (pv 8) pa_nil)) pa_nil))) pe_non (nomark _))
          (pw_or1 (pt_cmpR op_notN (pe_call GF hr5 (by rfl) mF kF bF .nil pass0 (pa_cons (pe_make M GI hr5 (by rfl) T.mgC bI .nil pass0 (pa_cons (pv 8) pa_nil)) (pa_cons (pv 5) pa_nil))) pe_non (nomark _))))) (pss_one (ps_ret pe_bl)) pss_nil))) pss_nil)
      (pss_cons (ps_set (i := 9) nd rfl (.inl rfl) (pe_call GR hr3 (by rfl) mR kR bR .nil pass0 (pa_cons (pv 0) (pa_cons (pv 1) (pa_cons pe_int pa_nil)))))
      (pss_cons (ps_par (i := 10) (j := 11) (by rfl) nd rfl rfl (by decide) rfl rfl (pa_cons (pe_call GE hr (by rfl) mE kE bE .nil pass0 (pa_cons (pv 3) (pa_cons (pe_op op_cat (pv 2) (pv 9)) pa_nil))) (pa_cons (pe_call GL hr (by rfl) mL kL bL .nil pass0 (pa_cons (pv 3) (pa_cons (pe_op op_cat (pv 9) (pv 2)) pa_nil))) pa_nil)) (by rfl))
      (pss_cons (ps_if (PW.pt (pw_or (pt_cmpR op_notN (pe_call GF hr5 (by rfl) mF kF bF .nil pass0 (pa_cons (pv 4) (pa_cons (pv 10) pa_nil))) pe_non (nomark _)) (pw_or1 (pt_cmpR op_notN (pe_call GF hr5 (by rfl) mF kF bF .nil pass0 (pa_cons (pv 11) (pa_cons (pv 5) pa_nil))) pe_non (nomark _))))) (pss_one (ps_ret pe_bl)) pss_nil)
      (pss_one (ps_ret (pe_and (pe_cmpR op_eq (pe_meth (pv 10) T.cl mO GO hr4 bO .nil pass0 (pa_cons (pe_ix ix_tup (pe_ix ix_list (pv 9) pe_int (fun _ _ => rfl)) pe_int (fun _ _ => rfl)) pa_nil)) (pe_ix ix_tup (pe_ix ix_list (pv 9) pe_int (fun _ _ => rfl)) pe_int (fun _ _ => rfl)) (nomark _))
        (pe_one (pe_cmpR op_eq (pe_meth (pv 11) T.cl mO GO hr4 bO .nil pass0 (pa_cons (pe_ix ix_tup (pe_ix ix_list (pv 9) pe_int (fun _ _ => rfl)) pe_int (fun _ _ => rfl)) pa_nil)) (pe_ix ix_tup (pe_ix ix_list (pv 9) pe_int (fun _ _ => rfl)) pe_int (fun _ _ => rfl)) (nomark _)))))))))))))))), ?_⟩
    have R0 := R.of_cut
    have ha0 := (cut_has ha).2
    refine ⟨_, rfl, a, _, rfl, .inl (SqL.of ha0), ?_⟩
    rw [List.length_map]
    -- the earliest and the latest one
    refine ⟨_, rfl, _, rfl, days.length, b, true, xs, rows, rfl, n0, n1, R0, h0, by omega, fun k => absurd hk k, fun _ H1 p4 s1 np4 t4 c4 => ?_⟩
    refine ⟨_, rfl, _, rfl, days.length, b, true, xs, rows, rfl, n0, n1, R0.same s1, h0, by omega, fun k => absurd hk k, fun _ H2 p5 s2 np5 t5 c5 => ?_⟩
    obtain ⟨px, py, hpp, _⟩ := id hp
    have t4C := c4 p _ hpp
    have t5C := c5 p _ (s1 _ _ hpp)
    have t4C2 := t4C.same (same_cut s2)
    refine ⟨_, _, rfl, ?_⟩
    refine ⟨_, rfl, rfl, _, rfl, ?_⟩
    refine if_f (by intro z; cases z) ?_
    refine ⟨_, rfl, rfl, _, rfl, ?_⟩
    refine if_f (by intro z; cases z) ?_
    -- they serve the rows
    refine ⟨_, rfl, _, rfl, (by show 2 ≤ sizeLine; decide), fun d nd' => ?_⟩
    have s3 := same_new (o := .lst [.ref p4, .ref p5]) nd'
    have s03 := (s1.trans s2).trans s3
    refine ⟨d, rfl, ⟨_, SqL.of upd_same⟩, ?_⟩
    refine for_list (K := K) (a := d) (xs := [.ref p4, .ref p5]) (fun i σ H' => (∃ y6, σ = [some (.ref p), some (.ref a), some (.ref b), some (.int days.length), some (.ref p4), some (.ref p5), y6, none, none, none, none, none, none, none]) ∧ Same (upd H2 d (.lst [.ref p4, .ref p5])) H')
      ⟨⟨none, rfl⟩, Same.refl _⟩ (fun i σ H' _ hP => SqL.of (hP.2 _ _ upd_same)) (fun i x σ H' hx hP => ?_) fun σ H' hP => ?_
    · obtain ⟨⟨y6, rfl⟩, s4⟩ := hP
      have hq : ∃ (u : Addr) (ds : List Int), x = .ref u ∧ TabAt C H' u ds ∧ ∀ r, r ∈ rows → onD ds r.1 = r.2 := by
        match i, hx with
        | 0, hx => exact ⟨p4, _, (Option.some.inj hx).symm, (t4C2.of_cut.same s3).same s4, oE⟩
        | 1, hx => exact ⟨p5, _, (Option.some.inj hx).symm, (t5C.of_cut.same s3).same s4, oL⟩
      obtain ⟨u, ds, rfl, tu, ou⟩ := hq
      have R4 := R0.same (s03.trans s4)
      refine ⟨_, rfl, b, rfl, ⟨_, SqL.of R4.at_⟩, fun D nD => ?_⟩
      refine comp_lst (xs := xs) nD (fun _ => V.bl true) (by omega) R4.at_ (fun j y H5 hj s5 W r => ?_) fun H5 s5 eD => ?_
      · have hj2 : j < rows.length := by
          have := (List.getElem?_eq_some_iff.mp hj).1
          omega
        obtain ⟨t, et, ht⟩ := (R4.rows.same s5).tup hj2
        rw [hj] at et
        have et := Option.some.inj et
        subst et
        have tu5 := tu.same s5
        obtain ⟨dx, l, g1, g2⟩ := tu5.at_
        refine ⟨_, rfl, u, dx, _, rfl, g1, flds_no _ _ (by decide +kernel) (by decide +kernel), _, rfl, t, _, _, _, rfl, rfl, SqT.of ht, atI_nat (j := 0) rfl, u, ds, _, rfl, tu5, ?_⟩
        refine ⟨_, rfl, t, _, _, _, rfl, rfl, SqT.of ht, atI_nat (j := 1) rfl, rfl, ?_⟩
        refine bl_t ?_ (r _ (Same.refl _))
        rw [ou _ (at_mem hj2)]
      · refine ⟨D, (List.range xs.length).map fun _ => true, rfl, SqL.of (by rw [eD, List.map_map]; rfl), true, ?_, iteF ?_⟩
        · rw [all_true]
        · exact ⟨⟨_, rfl⟩, s4.trans s5⟩
    obtain ⟨⟨y6, rfl⟩, s4⟩ := hP
    have s04 := s03.trans s4
    have s24 := s3.trans s4
    have t4' := t4C2.same (same_cut s24)
    have t5' := t5C.same (same_cut s24)
    -- hidden = Table(days)
    refine ⟨_, rfl, fun x dx nx ndx nex => ?_⟩
    have ha4 := s04 _ _ ha0
    refine ⟨x, dx, a, days, rfl, upd_same, by rw [upd_ne (ne_of_none ha4 nx), upd_ne (ne_of_none ha4 ndx)]; exact ha4, tab0, fun H5 th _ kp5 => ⟨rfl, ?_⟩⟩
    have s5 : Same H' H5 := Same.made nx ndx kp5
    have t45 := t4'.same (same_cut s5)
    have t55 := t5'.same (same_cut s5)
    refine ⟨_, rfl, _, rfl, p4, x, _, days, rfl, t45.of_cut, th, lE, (by rw [lE]; exact dE'), fun H6 s6 => ⟨rfl, _, rfl, ?_⟩⟩
    refine ifn_t rfl ?_
    refine ⟨_, rfl, _, rfl, x, p5, days, _, rfl, th.same s6, t55.of_cut.same s6, lL.symm, dL', fun H7 s7 => ⟨rfl, _, rfl, ?_⟩⟩
    refine ifn_t rfl ?_
    have s07 := ((s04.trans s5).trans s6).trans s7
    have k7 := Kp.of hp s07
    have t47 := (t45.same (same_cut s6)).same (same_cut s7)
    have t57 := (t55.same (same_cut s6)).same (same_cut s7)
    -- a rule drawn between the two
    obtain ⟨dx4, l4, g4, _⟩ := t47.of_cut.at_
    refine ⟨_, rfl, _, rfl, p4, dx4, _, rfl, g4, flds_no _ _ (by decide +kernel) (by decide +kernel), p4, _, rfl, t47.of_cut, fun ea H8 s8 nea hea => ?_⟩
    obtain ⟨dx5, l5, g5, _⟩ := (t57.of_cut.same s8).at_
    refine ⟨_, rfl, p5, dx5, _, rfl, g5, flds_no _ _ (by decide +kernel) (by decide +kernel), p5, _, rfl, t57.of_cut.same s8, fun la H9 s9 nla hla => ?_⟩
    have k9 : Kp p H H9 := (k7.trans (Kp.of k7.pot s8)).trans (Kp.of (k7.pot.same s8) s9)
    have neap := k7.pot.ne nea
    have nlap := (k7.pot.same s8).ne nla
    refine ⟨_, rfl, p, ea, la, _, _, days.length, rfl, k9.pot, (by rw [cut_ne neap]; exact s9 _ _ hea), (by rw [cut_ne nlap]; exact hla), tE, tL, lE, lL, fun i hi => Int.le_trans (dE' i hi) (dL' i hi), fun dl H10 ds k10 ndl hdl lds tds hb => ?_⟩
    have k010 := k9.trans k10
    have ndlp := k9.pot.ne ndl
    have t410 := ((t47.same (same_cut s8)).same (same_cut s9)).same k10.same
    have t510 := ((t57.same (same_cut s8)).same (same_cut s9)).same k10.same
    have R10 := R.same k010.same
    have ods : ∀ r, r ∈ rows → onD ds r.1 = r.2 := fun r hr => by
      have a1 := on_mono (d := tab days.length (gr days.length rows)) (e := ds) (by rw [lE, lds]) (by rw [lE]; exact n0) (fun i hi => (hb i (by rw [lE] at hi; exact hi)).1) r.1
      have a2 := on_mono (d := ds) (e := tab days.length (le days.length rows)) (by rw [lL, lds]) (by rw [lds]; exact n0) (fun i hi => (hb i (by rw [lds] at hi; exact hi)).2) r.1
      rw [oE r hr] at a1
      rw [oL r hr] at a2
      omega
    -- it is a rule
    refine ⟨_, rfl, _, _, rfl, rfl, _, rfl, by omega, by omega, fun D nD => ?_⟩
    refine comp_rng nD (fun _ => V.bl true) (by omega) (fun i H11 hi s11 W r => ?_) fun H11 s11 eD => ?_
    · have hd := s11 _ _ hdl
      refine ⟨_, rfl, _, rfl, dl, _, _, _, rfl, rfl, SqL.of hd, vi_atI (i := i) (by omega) (by omega), ?_⟩
      refine ⟨_, rfl, _, rfl, _, _, rfl, rfl, dl, _, _, _, rfl, rfl, SqL.of hd, vi_atI (i := i + 1) (by omega) (by omega), ?_⟩
      refine ⟨_, _, rfl, rfl, ?_⟩
      exact bl_t (tds.up i (by omega)) (r _ (Same.refl _))
    refine ⟨D, (List.range ((days.length : Int) - 1).toNat).map fun _ => true, rfl, SqL.of (by rw [eD, List.map_map]; rfl), true, ?_, iteT ?_⟩
    · rw [all_true]
    have hd11 := s11 _ _ hdl
    have tlast := tds.last
    rw [lds] at tlast
    refine ⟨_, rfl, 1, rfl, dl, _, _, _, rfl, rfl, SqL.of hd11, vi_last (by omega), _, rfl, dl, _, _, _, rfl, rfl, SqL.of hd11, vi_atI (i := 0) rfl (by omega), _, rfl, _, _, rfl, rfl, _, _, rfl, rfl, _, rfl, ?_⟩
    refine if_t (by rw [lds]; exact tlast) ?_
    -- it serves the rows
    have R11 := (R10.same (same_cut s11)).of_cut
    refine ⟨_, rfl, b, rfl, ⟨_, SqL.of R11.at_⟩, fun D' nD' => ?_⟩
    refine comp_lst (xs := xs) nD' (fun _ => V.bl true) (by omega) R11.at_ (fun j y H12 hj s12 W r => ?_) fun H12 s12 eD' => ?_
    · have hj2 : j < rows.length := by
        have := (List.getElem?_eq_some_iff.mp hj).1
        omega
      obtain ⟨t, et, ht⟩ := (R11.rows.same s12).tup hj2
      rw [hj] at et
      have et := Option.some.inj et
      subst et
      refine ⟨_, rfl, _, rfl, t, _, _, _, rfl, rfl, SqT.of ht, atI_nat (j := 0) rfl, dl, ds, _, rfl, s12 _ _ hd11, by omega, by omega, ?_⟩
      refine ⟨_, rfl, t, _, _, _, rfl, rfl, SqT.of ht, atI_nat (j := 1) rfl, rfl, ?_⟩
      refine bl_t ?_ (r _ (Same.refl _))
      rw [ods _ (at_mem hj2)]
    refine ⟨D', (List.range xs.length).map fun _ => true, rfl, SqL.of (by rw [eD', List.map_map]; rfl), true, ?_, iteF ?_⟩
    · rw [all_true]
    have s1012 := s11.trans s12
    have hd12 := s12 _ _ hd11
    have t412 := t410.same (same_cut s1012)
    have t512 := t510.same (same_cut s1012)
    -- it is let through
    refine ⟨_, rfl, _, rfl, fun x' dx' nx' ndx' nex' => ?_⟩
    refine ⟨x', dx', dl, ds, rfl, upd_same, by rw [upd_ne (ne_of_none hd12 nx'), upd_ne (ne_of_none hd12 ndx')]; exact hd12, tds, fun H13 tx _ kp13 => ⟨rfl, ?_⟩⟩
    have s13 : Same H12 H13 := Same.made nx' ndx' kp13
    refine ⟨p4, x', _, ds, rfl, (t412.same (same_cut s13)).of_cut, tx, by rw [lE, lds], fun i hi => (hb i (by rw [lE] at hi; exact hi)).1, fun H14 s14 => ⟨rfl, _, rfl, ?_⟩⟩
    refine ifn_t rfl ?_
    have hd14 := s14 _ _ (s13 _ _ hd12)
    refine ⟨_, rfl, fun x2 dx2 nx2 ndx2 nex2 => ?_⟩
    refine ⟨x2, dx2, dl, ds, rfl, upd_same, by rw [upd_ne (ne_of_none hd14 nx2), upd_ne (ne_of_none hd14 ndx2)]; exact hd14, tds, fun H15 tx2 _ kp15 => ⟨rfl, ?_⟩⟩
    have s15 : Same H14 H15 := Same.made nx2 ndx2 kp15
    have s1215 := (s13.trans s14).trans s15
    have t515 := t512.same (same_cut s1215)
    refine ⟨_, rfl, x2, p5, ds, _, rfl, tx2, t515.of_cut, by rw [lL, lds], fun i hi => (hb i (by rw [lds] at hi; exact hi)).2, fun H16 s16 => ⟨rfl, _, rfl, ?_⟩⟩
    refine ifn_t rfl ?_
    have s1016 := (s1012.trans s1215).trans s16
    have k016 : Kp p H H16 := k010.trans (Kp.of k010.pot s1016)
    have t416 := t410.same (same_cut s1016)
    have t516 := t510.same (same_cut s1016)
    -- one row more
    refine ⟨_, rfl, _, rfl, p, a, days, 1, rfl, k016.pot, k016.same _ _ ha, n0, n1, by decide, fun m H17 ys more k17 nm RM lm hmore => ?_⟩
    have k017 := k016.trans k17
    have t417 := t416.same k17.same
    have t517 := t516.same k17.same
    have R17 := R.same k017.same
    have hr17 := (cut_has R17.at_)
    have hm17 := (cut_has RM.at_)
    have lys := RM.rows.len
    have keptA : ∀ rs : List Row, (∀ r, r ∈ rs → r ∈ rows ∨ r ∈ more) → Kept (days.length : Nat) rs := fun rs h => kept_rule hn tab0.rule fun r hr => by
      rcases h r hr with h | h
      · exact hrows r h
      · exact (hmore r h).1
    have kA := keptA (rows ++ more) fun r hr => List.mem_append.mp hr
    have kB' := keptA (more ++ rows) fun r hr => (List.mem_append.mp hr).symm
    have neA : rows ++ more ≠ [] := by
      intro z
      exact hne (List.append_eq_nil_iff.mp z).1
    have neB : more ++ rows ≠ [] := by
      intro z
      exact hne (List.append_eq_nil_iff.mp z).2
    refine ⟨_, rfl, _, rfl, _, rfl, b, m, _, _, rfl, rfl, hr17.2, hm17.2, ?_, fun c nc => ?_⟩
    · rw [hxl, lys, lm]
      exact Nat.le_of_lt (small1000 (by omega))
    have s18 := same_new (o := .lst (xs ++ ys)) nc
    have RA : RowsV (upd H17 c (.lst (xs ++ ys))) (xs ++ ys) (rows ++ more) := (R17.rows.append RM.rows).same ((cut_same p H17).trans s18)
    refine ⟨days.length, c, true, xs ++ ys, rows ++ more, rfl, n0, n1, ⟨upd_same, RA⟩, by rw [List.length_append]; omega, by rw [List.length_append]; omega, fun k => absurd kA k, fun _ H19 pn s19 npn tn _ => ?_⟩
    have s1719 := s18.trans s19
    have hr19 := s1719 _ _ hr17.2
    have hm19 := s1719 _ _ hm17.2
    refine ⟨_, rfl, _, rfl, _, rfl, m, b, _, _, rfl, rfl, hm19, hr19, ?_, fun c' nc' => ?_⟩
    · rw [hxl, lys, lm]
      exact Nat.le_of_lt (small1000 (by omega))
    have s20 := same_new (o := .lst (ys ++ xs)) nc'
    have RB : RowsV (upd H19 c' (.lst (ys ++ xs))) (ys ++ xs) (more ++ rows) := (RM.rows.append R17.rows).same (((cut_same p H17).trans s1719).trans s20)
    refine ⟨days.length, c', true, ys ++ xs, more ++ rows, rfl, n0, n1, ⟨upd_same, RB⟩, by rw [List.length_append]; omega, by rw [List.length_append]; omega, fun k => absurd kB' k, fun _ H21 pf s21 npf tf _ => ?_⟩
    have s1921 := s20.trans s21
    have s1721 := s1719.trans s1921
    refine ⟨_, _, rfl, ?_⟩
    have t421 := (t417.same (same_cut s1721)).of_cut
    have t521 := (t517.same (same_cut s1721)).of_cut
    have tn21 := tn.same s1921
    refine ⟨_, rfl, _, rfl, p4, pn, _, _, rfl, t421, tn21, by rw [lE, tab_len], fun i hi => ?_, fun H22 s22 => ⟨rfl, _, rfl, ?_⟩⟩
    · rw [lE] at hi
      rw [tab_getD hi, tab_getD hi]
      exact gr_more hne (fun r hr => List.mem_append_left _ hr) _
    refine ifn_t rfl ?_
    refine ⟨_, rfl, _, rfl, pf, p5, _, _, rfl, tf.same s22, t521.same s22, by rw [lL, tab_len], fun i hi => ?_, fun H23 s23 => ⟨rfl, _, rfl, ?_⟩⟩
    · rw [tab_len] at hi
      rw [tab_getD hi, tab_getD hi]
      exact le_more hne (fun r hr => List.mem_append_right _ hr) _
    refine ifn_t rfl ?_
    have s2123 := s22.trans s23
    have s1723 := s1721.trans s2123
    have tn23 := tn21.same s2123
    have tf23 := tf.same s2123
    -- the two meet on its day
    have hm0 : 0 < more.length := by omega
    obtain ⟨t, et, ht⟩ := (RM.of_cut.rows.same s1723).tup hm0
    have hm23 := s1723 _ _ hm17.2
    have hmem := at_mem hm0
    obtain ⟨dxn, ln, gn, _⟩ := tn23.at_
    refine ⟨_, rfl, pn, dxn, _, rfl, gn, flds_no _ _ (by decide +kernel) (by decide +kernel), _, rfl, m, _, _, _, rfl, rfl, SqL.of hm23, atI_nat (j := 0) et, t, _, _, _, rfl, rfl, SqT.of ht, atI_nat (j := 0) rfl, pn, _, _, rfl, tn23, ?_⟩
    refine ⟨_, rfl, m, _, _, _, rfl, rfl, SqL.of hm23, atI_nat (j := 0) et, t, _, _, _, rfl, rfl, SqT.of ht, atI_nat (j := 1) rfl, rfl, _, rfl, ?_⟩
    refine if_t (by rw [tab_on n0 (gr_rule hn neA), gr_row kA (List.mem_append_right _ hmem)]) ?_
    obtain ⟨dxf, lf, gf, _⟩ := tf23.at_
    refine ⟨_, rfl, pf, dxf, _, rfl, gf, flds_no _ _ (by decide +kernel) (by decide +kernel), _, rfl, m, _, _, _, rfl, rfl, SqL.of hm23, atI_nat (j := 0) et, t, _, _, _, rfl, rfl, SqT.of ht, atI_nat (j := 0) rfl, pf, _, _, rfl, tf23, ?_⟩
    refine ⟨_, rfl, m, _, _, _, rfl, rfl, SqL.of hm23, atI_nat (j := 0) et, t, _, _, _, rfl, rfl, SqT.of ht, atI_nat (j := 1) rfl, rfl, ?_⟩
    refine bl_t (by rw [tab_on n0 (le_rule hn neB), le_row kB' (List.mem_append_left _ hmem)]) ?_
    exact q _ (k017.trans (Kp.of k017.pot s1723))
end
end K16
set_option maxRecDepth 100000
set_option maxHeartbeats 4000000
/-! All days of a period; one row. -/
namespace K16
open PySem PySem.Spec PyProof.Rows L2
theorem onD_bd {days : List Int} {B : Int} (h0 : 0 < days.length) (h : ∀ i, i < days.length → -B ≤ days.getD i 0 ∧ days.getD i 0 ≤ B) (x : Int) : -B + x - days.length ≤ onD days x ∧ onD days x ≤ B + x := by
  unfold onD
  have a := Int.emod_nonneg x (show (days.length : Int) ≠ 0 by omega)
  have b := Int.emod_lt_of_pos x (show (0 : Int) < days.length by omega)
  have c := h (x % days.length).toNat (by omega)
  have q := Int.ediv_mul_le x (show (days.length : Int) ≠ 0 by omega)
  have q2 := Int.lt_ediv_add_one_mul_self x (show (0 : Int) < days.length by omega)
  rw [Int.add_mul, Int.one_mul] at q2
  omega
theorem rows_one {H : Hp} {t : Addr} {r : Row} (h : H t = some (.tup [.int r.1, .int r.2])) : RowsV H [.ref t] [r] := RowsV.snoc (vs := []) (rows := []) ⟨rfl, fun i r e => by simp at e⟩ h
theorem rows_rep {H : Hp} {t : Addr} {r : Row} (h : H t = some (.tup [.int r.1, .int r.2])) : ∀ n, RowsV H (List.replicate n (.ref t)) (List.replicate n r) := fun n => by
  refine ⟨by rw [List.length_replicate, List.length_replicate], fun i q e => ?_⟩
  have hi : i < n := by
    have := (List.getElem?_eq_some_iff.mp e).1
    rw [List.length_replicate] at this
    exact this
  rw [List.getElem?_replicate, if_pos hi] at e
  have e := Option.some.inj e
  subst e
  exact ⟨t, by rw [List.getElem?_replicate, if_pos hi], h⟩
theorem rows_rev {H : Hp} {vs : List V} {rows : List Row} (R : RowsV H vs rows) : RowsV H vs.reverse rows.reverse := by
  refine ⟨by rw [List.length_reverse, List.length_reverse, R.len], fun i r e => ?_⟩
  have hi : i < rows.length := by
    have := (List.getElem?_eq_some_iff.mp e).1
    rw [List.length_reverse] at this
    exact this
  rw [List.getElem?_reverse hi] at e
  obtain ⟨t, a, b⟩ := R.at_ _ r e
  refine ⟨t, ?_, b⟩
  rw [List.getElem?_reverse (by rw [R.len]; exact hi), R.len]
  exact a
section
variable {P : Program} {w : World} {K : PySem.W.Frag} {mg : Str → Option Value} {base : Heap} {C f : Addr} {fd : FuncData}
def spEnds : Sp := fun vs H Q _ => ∃ (p a : Addr) (days : List Int), vs = [.ref p, .ref a] ∧ PotAt H p ∧ cut p H a = some (.lst (vi days)) ∧ IsTab days ∧ days.length ≤ 60 ∧ (∀ i, i < days.length → -20000000 ≤ days.getD i 0 ∧ days.getD i 0 ≤ 20000000) ∧ ∀ H', Kp p H H' → Q (.bl true) H'
abbrev nEnds : List Str := ["_law_pot_here", "_law_days_here", "_law_length", "_law_first", "_law_rows", "_law_row", "_law_at"]
theorem scEnds : FnScope nEnds ["_law_pot_here", "_law_days_here"] (defScope sEnds) := ⟨rfl, rfl, rfl, by decide +kernel, rfl, by decide +kernel, by decide +kernel⟩
theorem ok_ends {fE fL fI fQ fD fV fP fR : Addr} {dE dL dI dQ dD dV dP dR : FuncData} (F : Fun K "_law_ends_right" "_law_ends_right" sEnds f fd)
    (GE : FnOk P w K mg base CX0 6 fE dE ["count", "rows"] (spFind C gr)) (kE : PySem.W.keepIn K (.ref fE) = true) (bE : Binds K dE ["count", "rows"] []) (mE : mg "earliest_with" = some (.ref fE))
    (GL : FnOk P w K mg base CX0 6 fL dL ["count", "rows"] (spFind C le)) (kL : PySem.W.keepIn K (.ref fL) = true) (bL : Binds K dL ["count", "rows"] []) (mL : mg "latest_with" = some (.ref fL))
    (M : Mk K C fI) (GI : FnOk P w K mg base CX0 4 fI dI ["self", "days"] (spInit C)) (bI : Binds K dI ["self", "days"] [])
    (GQ : FnOk P w K mg base CX0 1 fQ dQ ["self", "other"] (spEq C)) (bQ : Binds K dQ ["self", "other"] []) (eQ : PySem.W.findIn K (.ref C) "__eq__" = some (some (.ref fQ))) (iQ : PySem.W.isFn K (.ref fQ) = true)
    (GD : FnOk P w K mg base CX0 1 fD dD ["_law_pot_here", "_law_size"] spDraw) (kD : PySem.W.keepIn K (.ref fD) = true) (bD : Binds K dD ["_law_pot_here", "_law_size"] []) (mD : mg "_law_draw" = some (.ref fD))
    (GV : FnOk P w K mg base CX0 1 fV dV ["_law_days_here", "_law_day"] spLawOn) (kV : PySem.W.keepIn K (.ref fV) = true) (bV : Binds K dV ["_law_days_here", "_law_day"] []) (mV : mg "_law_on" = some (.ref fV))
    (GP : FnG P w K mg base 7 fP dP ["_law_length", "_law_rows"] spPair) (kP : PySem.W.keepIn K (.ref fP) = true) (bP : Binds K dP ["_law_length", "_law_rows"] []) (mP : mg "_law_pair_right" = some (.ref fP))
    (GR : FnOk P w K mg base CX0 3 fR dR ["_law_pot_here", "_law_days_here", "_law_many"] spRead) (kR : PySem.W.keepIn K (.ref fR) = true) (bR : Binds K dR ["_law_pot_here", "_law_days_here", "_law_many"] []) (mR : mg "_law_read" = some (.ref fR))
    (T : Txt K mg C) : FnG P w K mg base 8 f fd ["_law_pot_here", "_law_days_here"] spEnds := by
  have nd := scEnds.nd
  refine okG F scEnds (fun vs H Q E h => ?_) (fun cdv A outer s H vs Q E g0 hr h => ?_)
  · obtain ⟨p, a, days, rfl, _⟩ := h
    rfl
  · obtain ⟨p, a, days, rfl, hp, ha, tab0, n60, bd, q⟩ := h
    have hr1 : Room 1 _ := hr.mono (by decide)
    have hr2 : Room 2 _ := hr.mono (by decide)
    have hr3 : Room 3 _ := hr.mono (by decide)
    have hr5 : Room 5 _ := hr.mono (by decide)
    have hr6 : Room 6 _ := hr.mono (by decide)
    have n0 := tab0.pos
    have n1 := tab0.most
    have hn : (0 : Int) < (days.length : Int) := by omega
    have ne := op_neI (X := (cxOf CX0 P w K mg base nEnds "_law_ends_right" (defScope sEnds) f cdv A outer s H E).nox) GQ hr2 eQ iQ bQ T.ne T.hm
    refine ⟨_, pss_cons (ps_set (i := 2) nd rfl (.inl rfl) (pe_callB call_len_seq (by rfl) T.len boot_len (pa_cons (pv 1) pa_nil)))
      (pss_cons (ps_set (i := 3) nd rfl (.inr rfl) (pe_op op_sub (pe_call GD hr1 (by rfl) mD kD bD .nil pass0 (pa_cons (pv 0) (pa_cons pe_int pa_nil))) pe_int))
      (pss_cons (ps_setLc (i := 4) (own := [("_law_at", 6)]) (g := gName 6) (tt := tYes) rfl nd rfl rfl (sw_true rfl rfl rfl (by decide +kernel)) (pi_range1 (by rfl) T.range (pa_cons (pv 2) pa_nil)) (blkOk_by (N := nEnds) (sc := defScope sEnds) (by decide +kernel))
          (fun _ _ _ _ _ => pg_name (i := 6) nd rfl (.inl rfl)) (fun _ _ _ _ _ => pts_nil) (fun _ _ _ _ _ => pe_tup (pa_cons (pe_op op_add (pv 3) (pv 6)) (pa_cons (pe_call GV hr1 (by rfl) mV kV bV .nil pass0 (pa_cons (pv 1) (pa_cons (pe_op op_add (pv 3) (pv 6)) pa_nil))) pa_nil))))
      (pss_cons (ps_if (PW.pt (pw_or (pt_cmpR ne (pe_call GE hr6 (by rfl) mE kE bE .nil pass0 (pa_cons (pv 2) (pa_cons (pv 4) pa_nil))) (pe_make M GI hr5 (by rfl) T.mgC bI .nil pass0 (pa_cons (pv 1) pa_nil)) (nomark _))
          (pw_or1 (pt_cmpR ne (pe_call GL hr6 (by rfl) mL kL bL .nil pass0 (pa_cons (pv 2) (pa_cons (pe_revL (pv 4)) pa_nil))) (pe_make M GI hr5 (by rfl) T.mgC bI .nil pass0 (pa_cons (pv 1) pa_nil)) (nomark _))))) (pss_one (ps_ret pe_bl)) pss_nil)
      (pss_cons (ps_set (i := 5) nd rfl (.inl rfl) (pe_tup (pa_cons (pv 3) (pa_cons (pe_call GV hr1 (by rfl) mV kV bV .nil pass0 (pa_cons (pv 1) (pa_cons (pv 3) pa_nil))) pa_nil))))
      (pss_cons (ps_if (PW.pt (pw_or (pt_not (pt_val (pe_callG GP g0 hr (by rfl) mP kP bP (pa_cons (pv 2) (pa_cons (pe_lst (pa_cons (pv 5) pa_nil)) pa_nil)))))
          (pw_or1 (pt_not (pt_val (pe_callG GP g0 hr (by rfl) mP kP bP (pa_cons (pv 2) (pa_cons (pe_op op_rep (pe_lst (pa_cons (pv 5) pa_nil)) pe_int) pa_nil)))))))) (pss_one (ps_ret pe_bl)) pss_nil)
      (pss_cons (ps_if (PW.pt (pw_or (pt_not (pt_val (pe_callG GP g0 hr (by rfl) mP kP bP (pa_cons pe_int (pa_cons (pe_lst (pa_cons (pv 5) pa_nil)) pa_nil)))))
          (pw_or1 (pt_not (pt_val (pe_callG GP g0 hr (by rfl) mP kP bP (pa_cons pe_int (pa_cons (pv 4) pa_nil)))))))) (pss_one (ps_ret pe_bl)) pss_nil)
      (pss_one (ps_ret (pe_and (pe_callG GP g0 hr (by rfl) mP kP bP (pa_cons pe_int (pa_cons (pe_call GR hr3 (by rfl) mR kR bR .nil pass0 (pa_cons (pv 0) (pa_cons (pv 1) (pa_cons pe_int pa_nil)))) pa_nil)))
        (pe_one (pe_callG GP g0 hr (by rfl) mP kP bP (pa_cons (pe_op op_add (pe_call GD hr1 (by rfl) mD kD bD .nil pass0 (pa_cons (pv 0) (pa_cons pe_int pa_nil))) pe_int) (pa_cons (pv 4) pa_nil))))))))))))), ?_⟩
    have ha0 := (cut_has ha).2
    refine ⟨_, rfl, a, _, rfl, .inl (SqL.of ha0), ?_⟩
    rw [List.length_map]
    refine ⟨_, rfl, p, 40, rfl, by decide, by decide, hp, fun z H1 z0 z1 k1 => ?_⟩
    refine ⟨_, _, rfl, rfl, ?_⟩
    have ha1 := (cut_has (k1.same _ _ ha)).2
    have hap := (cut_has ha).1
    -- the rows
    refine ⟨_, rfl, _, rfl, by omega, by omega, fun D nD => ?_⟩
    have nDp := k1.pot.ne nD
    refine lc_range (lo := 0) (n := (days.length : Int).toNat) (fun i H2 => Same H1 H2 ∧ ∃ xs : List V, H2 D = some (.lst xs) ∧ RowsV (cut D H2) xs ((List.range i).map fun (j : Nat) => (z - 20 + (j : Int), onD days (z - 20 + (j : Int))))) ⟨same_new nD, [], upd_same, ⟨rfl, fun i r e => by simp at e⟩⟩ (fun i H2 hi hP => ?_) fun H2 hP => ?_
    · obtain ⟨s2, xs, hD2, R2⟩ := hP
      refine ⟨wipe1 _ 6 _, ?_⟩
      unfold tYes
      refine iteT ?_
      refine ⟨_, rfl, _, rfl, _, _, rfl, rfl, _, rfl, _, rfl, _, rfl, _, _, rfl, rfl, a, days, _, rfl, s2 _ _ ha1, n0, n1, (by show 2 ≤ sizeLine; decide), fun t nt => ?_⟩
      rw [Int.zero_add]
      have s3 := same_new (o := .tup [.int (z - 20 + (i : Int)), .int (onD days (z - 20 + (i : Int)))]) nt
      have ntD : t ≠ D := (ne_of_none hD2 nt).symm
      have hxl : xs.length = i := by
        rw [R2.len, List.length_map, List.length_range]
      refine ⟨xs, s3 _ _ hD2, small1000 (by omega), same_off (s2.trans s3) nD, _, upd_same, ?_⟩
      rw [List.range_succ, List.map_append]
      refine ((R2.same ?_).snoc (t := t) ?_)
      · refine (same_cut s3).trans fun b o e => ?_
        obtain ⟨nb, e⟩ := cut_has e
        rw [cut_ne nb, upd_ne nb]
        exact e
      · rw [cut_ne ntD, upd_ne ntD]
        exact upd_same
    obtain ⟨s2, xs, hD2, R2⟩ := hP
    have en : (days.length : Int).toNat = days.length := by omega
    rw [en] at R2
    generalize hrs : ((List.range days.length).map fun (j : Nat) => (z - 20 + (j : Int), onD days (z - 20 + (j : Int)))) = rows at R2
    have hrl : rows.length = days.length := by
      rw [← hrs, List.length_map, List.length_range]
    have hrows : ∀ r, r ∈ rows → onD days r.1 = r.2 ∧ -20 ≤ r.1 ∧ r.1 ≤ 80 := fun r hr => by
      rw [← hrs] at hr
      obtain ⟨j, hj, e⟩ := List.mem_map.mp hr
      have hj := List.mem_range.mp hj
      rw [← e]
      refine ⟨rfl, ?_, ?_⟩
      · show -20 ≤ z - 20 + (j : Int)
        omega
      · show z - 20 + (j : Int) ≤ 80
        omega
    have hall : ∀ i : Nat, i < days.length → (z - 20 + (i : Int), onD days (z - 20 + (i : Int))) ∈ rows := fun i hi => by
      rw [← hrs]
      exact List.mem_map.mpr ⟨i, List.mem_range.mpr hi, rfl⟩
    have bdr : Bd rows := fun r hr => by
      obtain ⟨h1, h2, h3⟩ := hrows r hr
      have b2 := onD_bd (B := 20000000) n0 bd r.1
      rw [h1] at b2
      omega
    have hne : rows ≠ [] := List.ne_nil_of_length_pos (by omega)
    have kept := kept_rule hn tab0.rule fun r hr => (hrows r hr).1
    have tabE : tab days.length (gr days.length rows) = days := by
      rw [tab_ext (g := onD days) fun i hi => (ends_gr tab0 (fun r hr => (hrows r hr).1) hall i).1, tab_of tab0]
    have RA : RowsAt H2 true D xs rows := ⟨hD2, R2.same (cut_same D H2)⟩
    have ha2 := s2 _ _ ha1
    have hxl : xs.length = days.length := by
      rw [R2.len, hrl]
    -- the earliest one is the rule
    refine ⟨_, rfl, _, rfl, days.length, D, true, xs, rows, rfl, n0, n1, RA, by omega, by omega, fun k => absurd kept k, fun _ H3 p4 s3 np4 t4 _ => ?_⟩
    rw [tabE] at t4
    have ha3 := s3 _ _ ha2
    refine ⟨_, rfl, fun x dx nx ndx nex => ?_⟩
    refine ⟨x, dx, a, days, rfl, upd_same, by rw [upd_ne (ne_of_none ha3 nx), upd_ne (ne_of_none ha3 ndx)]; exact ha3, tab0, fun H4 th _ kp4 => ⟨rfl, ?_⟩⟩
    have s4 : Same H3 H4 := Same.made nx ndx kp4
    have t44 := t4.same s4
    obtain ⟨dx4, l4, g4, _⟩ := t44.at_
    obtain ⟨dxh, lh, gh, _⟩ := th.at_
    refine ⟨p4, x, dx4, dxh, _, _, rfl, rfl, g4, gh, p4, x, days, rfl, t44, th, true, rfl, _, rfl, iteF ?_⟩
    -- the latest one, the rows from behind
    have s24 := s3.trans s4
    have RA4 := RA.same s24
    refine ⟨_, rfl, _, rfl, D, _, rfl, SqL.of RA4.at_, fun e nee => ?_⟩
    have s5 := same_new (o := .lst xs.reverse) nee
    have RR : RowsAt (upd H4 e (.lst xs.reverse)) true e xs.reverse rows.reverse := ⟨upd_same, rows_rev (RA4.rows.same s5)⟩
    have keptR := kept_rule (rows := rows.reverse) hn tab0.rule fun r hr => (hrows r (List.mem_reverse.mp hr)).1
    have tabL : tab days.length (le days.length rows.reverse) = days := by
      rw [tab_ext (g := onD days) fun i hi => (ends_gr tab0 (fun r hr => (hrows r (List.mem_reverse.mp hr)).1) (fun i hi => List.mem_reverse.mpr (hall i hi)) i).2, tab_of tab0]
    refine ⟨days.length, e, true, xs.reverse, rows.reverse, rfl, n0, n1, RR, by rw [List.length_reverse]; omega, by rw [List.length_reverse]; omega, fun k => absurd keptR k, fun _ H6 p5 s6 np5 t5 _ => ?_⟩
    rw [tabL] at t5
    have s46 := s5.trans s6
    have ha6 := s46 _ _ (s4 _ _ ha3)
    refine ⟨_, rfl, fun x' dx' nx' ndx' nex' => ?_⟩
    refine ⟨x', dx', a, days, rfl, upd_same, by rw [upd_ne (ne_of_none ha6 nx'), upd_ne (ne_of_none ha6 ndx')]; exact ha6, tab0, fun H7 th' _ kp7 => ⟨rfl, ?_⟩⟩
    have s7 : Same H6 H7 := Same.made nx' ndx' kp7
    have t57 := t5.same s7
    obtain ⟨dx5, l5, g5, _⟩ := t57.at_
    obtain ⟨dxh', lh', gh', _⟩ := th'.at_
    refine ⟨p5, x', dx5, dxh', _, _, rfl, rfl, g5, gh', p5, x', days, rfl, t57, th', true, rfl, _, rfl, iteF ?_⟩
    have s27 := (s24.trans s46).trans s7
    have ha7 := s27 _ _ ha2
    -- one row
    refine ⟨_, rfl, _, rfl, _, rfl, a, days, _, rfl, ha7, n0, n1, (by show 2 ≤ sizeLine; decide), fun t nt => ?_⟩
    have s8 := same_new (o := .tup [.int (z - 20), .int (onD days (z - 20))]) nt
    have s28 := s27.trans s8
    have RA8 := RA.same s28
    have ht8 : upd H7 t (.tup [.int (z - 20), .int (onD days (z - 20))]) t = some (.tup [.int (z - 20), .int (onD days (z - 20))]) := upd_same
    have bd1 : ∀ n, Bd (List.replicate n (z - 20, onD days (z - 20))) := fun n r hr => by
      have e := List.eq_of_mem_replicate hr
      subst e
      have b2 := onD_bd (B := 20000000) n0 bd (z - 20)
      refine ⟨?_, ?_, ?_, ?_⟩
      · show -1000000000 ≤ z - 20
        omega
      · show z - 20 ≤ 1000000000
        omega
      · show -1000000000 ≤ onD days (z - 20)
        omega
      · show onD days (z - 20) ≤ 1000000000
        omega
    generalize hH8 : upd H7 t (.tup [.int (z - 20), .int (onD days (z - 20))]) = H8 at s8 s28 RA8 ht8
    have one : ∀ (X : Hp), Same H8 X → ∀ m, X m = none → ∀ n, RowsAt (upd X m (.lst (List.replicate n (.ref t)))) true m (List.replicate n (.ref t)) (List.replicate n (z - 20, onD days (z - 20))) := fun X sX m nm n => ⟨upd_same, rows_rep (same_new nm _ _ (sX _ _ ht8)) n⟩
    refine ⟨_, rfl, _, rfl, (by show 1 ≤ sizeLine; decide), fun m nm => ?_⟩
    have s9 := same_new (o := .lst (List.replicate 1 (V.ref t))) nm
    refine ⟨days.length, m, _, _, rfl, n0, n1, one H8 (Same.refl _) m nm 1, (by rw [List.length_replicate]; decide), (by rw [List.length_replicate]; decide), bd1 1, fun H10 s10 => ⟨true, rfl, iteF ?_⟩⟩
    have s810 := s9.trans s10
    refine ⟨_, rfl, _, rfl, (by show 1 ≤ sizeLine; decide), fun m2 nm2 => ?_⟩
    have s11 := same_new (o := .lst (List.replicate 1 (V.ref t))) nm2
    refine ⟨m2, 60, [.ref t], rfl, rfl, upd_same, by decide, by decide, (by show 1 * 60 ≤ sizeLine; decide), fun m3 nm3 => ?_⟩
    have s12 := same_new (o := .lst (List.replicate 60 (V.ref t))) nm3
    refine ⟨days.length, m3, List.replicate 60 (.ref t), List.replicate 60 (z - 20, onD days (z - 20)), rfl, n0, n1, one _ (s810.trans s11) m3 nm3 60, (by rw [List.length_replicate]; decide), (by rw [List.length_replicate]; decide), bd1 60, fun H13 s13 => ⟨true, rfl, iteF ?_⟩⟩
    have s813 := ((s810.trans s11).trans s12).trans s13
    -- of length one
    refine ⟨_, rfl, (by show 1 ≤ sizeLine; decide), fun m4 nm4 => ?_⟩
    have s14 := same_new (o := .lst (List.replicate 1 (V.ref t))) nm4
    refine ⟨1, m4, _, _, rfl, by decide, by decide, one _ s813 m4 nm4 1, (by rw [List.length_replicate]; decide), (by rw [List.length_replicate]; decide), bd1 1, fun H15 s15 => ⟨true, rfl, iteF ?_⟩⟩
    have s815 := (s813.trans s14).trans s15
    have RA15 := RA8.same s815
    refine ⟨_, rfl, 1, D, xs, rows, rfl, by decide, by decide, RA15, by omega, by omega, bdr, fun H16 s16 => ⟨true, rfl, iteF ?_⟩⟩
    -- of length 600
    have s116 := ((s2.trans s28).trans s815).trans s16
    have k16 : Kp p H H16 := k1.trans (Kp.of k1.pot s116)
    refine ⟨_, rfl, _, rfl, p, a, days, 5, rfl, k16.pot, k16.same _ _ ha, n0, n1, by decide, fun m5 H17 ys more k17 nm5 RM lm hmore => ?_⟩
    have bdm : Bd more := fun r hr => by
      obtain ⟨h1, h2, h3⟩ := hmore r hr
      have b2 := onD_bd (B := 20000000) n0 bd r.1
      rw [h1] at b2
      omega
    refine ⟨600, m5, ys, more, rfl, by decide, by decide, RM.of_cut, by omega, by omega, bdm, fun H18 s18 => ⟨true, rfl, iteT ?_⟩⟩
    have k18 : Kp p H16 H18 := k17.trans (Kp.of k17.pot s18)
    refine ⟨_, rfl, p, 30, rfl, by decide, by decide, k18.pot, fun u H19 u0 u1 k19 => ?_⟩
    have k1619 := k18.trans k19
    have RC : RowsAt (cut p H2) true D xs rows := ⟨by rw [cut_ne nDp]; exact hD2, ⟨R2.len, fun i r e => by
      obtain ⟨t', a', b'⟩ := R2.at_ i r e
      refine ⟨t', a', ?_⟩
      obtain ⟨nb, b''⟩ := cut_has b'
      obtain ⟨px, py, hpp, _⟩ := k1.pot
      rw [cut_ne (ne_of b'' (s2 _ _ hpp) (by intro z; cases z))]
      exact b''⟩⟩
    have RC19 := (RC.same (same_cut ((s28.trans s815).trans s16))).same k1619.same
    refine ⟨_, _, rfl, rfl, _, rfl, (u + 1).toNat, D, xs, rows, ?_, by omega, by omega, RC19.of_cut, by omega, by omega, bdr, fun H20 s20 => ?_⟩
    · rw [Int.toNat_of_nonneg (by omega)]
    · exact q _ ((k16.trans k1619).trans (Kp.of k19.pot s20))
end
end K16
set_option maxRecDepth 100000
set_option maxHeartbeats 4000000
/-! One pot's round; the law. -/
namespace K16
open PySem PySem.Spec PyProof.Rows L2
theorem ixN_in {n j : Nat} (h : j < n) : ixN n (j : Int) = some j := by
  unfold ixN
  rw [if_pos (by omega), if_pos (by omega), Int.toNat_natCast]
theorem RowsV.put {H : Hp} {vs : List V} {rows : List Row} {t : Addr} {r : Row} (R : RowsV H vs rows) (j : Nat) (h : H t = some (.tup [.int r.1, .int r.2])) : RowsV H (vs.set j (.ref t)) (rows.set j r) := by
  refine ⟨by rw [List.length_set, List.length_set, R.len], fun i q e => ?_⟩
  have hi : i < rows.length := by
    have := (List.getElem?_eq_some_iff.mp e).1
    rw [List.length_set] at this
    exact this
  by_cases ij : j = i
  · subst ij
    rw [List.getElem?_set_self hi] at e
    have e := Option.some.inj e
    subst e
    exact ⟨t, by rw [List.getElem?_set_self (by rw [R.len]; exact hi)], h⟩
  · rw [List.getElem?_set_ne ij] at e
    obtain ⟨t', a, b⟩ := R.at_ i q e
    exact ⟨t', by rw [List.getElem?_set_ne ij]; exact a, b⟩
theorem Bd.put {rows : List Row} {r : Row} (B : Bd rows) (j : Nat) (h : -1000000000 ≤ r.1 ∧ r.1 ≤ 1000000000 ∧ -1000000000 ≤ r.2 ∧ r.2 ≤ 1000000000) : Bd (rows.set j r) := fun q hq => by
  rcases List.mem_or_eq_of_mem_set hq with m | e
  · exact B q m
  · rw [e]
    exact h
theorem Bd.append {rows more : List Row} (B : Bd rows) (M : Bd more) : Bd (rows ++ more) := fun q hq => (List.mem_append.mp hq).elim (B q) (M q)
section
variable {P : Program} {w : World} {K : PySem.W.Frag} {mg : Str → Option Value} {base : Heap} {C f : Addr} {fd : FuncData}
def spRight : Sp := fun vs H Q _ => ∃ p : Addr, vs = [.ref p] ∧ PotAt H p ∧ ∀ H', Kp p H H' → Q (.bl true) H'
abbrev nRight : List Str := ["_law_pot_here", "_law_length", "_law_days_here", "_law_rows", "_law_at", "_law_spoilt", "_law_free", "_law_turn"]
theorem scRight : FnScope nRight ["_law_pot_here"] (defScope sRight) := ⟨rfl, rfl, rfl, by decide +kernel, rfl, by decide +kernel, by decide +kernel⟩
theorem ok_right {fK fY fR fD fP fH fE : Addr} {dK dY dR dD dP dH dE : FuncData} (F : Fun K "_law_right" "_law_right" sRight f fd)
    (GK : FnOk P w K mg base CX0 2 fK dK ["_law_pot_here", "_law_some"] spPick) (kK : PySem.W.keepIn K (.ref fK) = true) (bK : Binds K dK ["_law_pot_here", "_law_some"] []) (mK : mg "_law_pick" = some (.ref fK))
    (GY : FnOk P w K mg base CX0 3 fY dY ["_law_pot_here", "_law_length", "_law_first"] spLawDays) (kY : PySem.W.keepIn K (.ref fY) = true) (bY : Binds K dY ["_law_pot_here", "_law_length", "_law_first"] []) (mY : mg "_law_days" = some (.ref fY))
    (GR : FnOk P w K mg base CX0 3 fR dR ["_law_pot_here", "_law_days_here", "_law_many"] spRead) (kR : PySem.W.keepIn K (.ref fR) = true) (bR : Binds K dR ["_law_pot_here", "_law_days_here", "_law_many"] []) (mR : mg "_law_read" = some (.ref fR))
    (GD : FnOk P w K mg base CX0 1 fD dD ["_law_pot_here", "_law_size"] spDraw) (kD : PySem.W.keepIn K (.ref fD) = true) (bD : Binds K dD ["_law_pot_here", "_law_size"] []) (mD : mg "_law_draw" = some (.ref fD))
    (GP : FnG P w K mg base 7 fP dP ["_law_length", "_law_rows"] spPair) (kP : PySem.W.keepIn K (.ref fP) = true) (bP : Binds K dP ["_law_length", "_law_rows"] []) (mP : mg "_law_pair_right" = some (.ref fP))
    (GH : FnOk P w K mg base CX0 7 fH dH ["_law_pot_here", "_law_days_here", "_law_rows"] (spHidden C)) (kH : PySem.W.keepIn K (.ref fH) = true) (bH : Binds K dH ["_law_pot_here", "_law_days_here", "_law_rows"] []) (mH : mg "_law_hidden_right" = some (.ref fH))
    (GE : FnG P w K mg base 8 fE dE ["_law_pot_here", "_law_days_here"] spEnds) (kE : PySem.W.keepIn K (.ref fE) = true) (bE : Binds K dE ["_law_pot_here", "_law_days_here"] []) (mE : mg "_law_ends_right" = some (.ref fE))
    (T : Txt K mg C) : FnG P w K mg base 9 f fd ["_law_pot_here"] spRight := by
  have nd := scRight.nd
  refine okG F scRight (fun vs H Q E h => ?_) (fun cdv A outer s H vs Q E g0 hr h => ?_)
  · obtain ⟨p, rfl, _⟩ := h
    rfl
  · obtain ⟨p, rfl, hp, q⟩ := h
    have hr1 : Room 1 _ := hr.mono (by decide)
    have hr2 : Room 2 _ := hr.mono (by decide)
    have hr3 : Room 3 _ := hr.mono (by decide)
    have hr7 : Room 7 _ := hr.mono (by decide)
    refine ⟨_, pss_cons (ps_set (i := 1) nd rfl (.inr rfl) (pe_call GK hr2 (by rfl) mK kK bK .nil pass0 (pa_cons (pv 0) (pa_cons (pe_lst (pa_cons pe_int (pa_cons pe_int (pa_cons pe_int (pa_cons pe_int (pa_cons pe_int (pa_cons pe_int (pa_cons pe_int (pa_cons pe_int (pa_cons pe_int pa_nil)))))))))) pa_nil))))
      (pss_cons (ps_set (i := 2) nd rfl (.inl rfl) (pe_call GY hr3 (by rfl) mY kY bY .nil pass0 (pa_cons (pv 0) (pa_cons (pv 1) (pa_cons
          (pe_call GK hr2 (by rfl) mK kK bK .nil pass0 (pa_cons (pv 0) (pa_cons (pe_lst (pa_cons pe_int (pa_cons pe_int (pa_cons (pe_un un_neg pe_int) (pa_cons (pv 1) (pa_cons pe_int (pa_cons (pe_op op_sub pe_int (pe_op op_pow pe_int pe_int)) pa_nil))))))) pa_nil))) pa_nil)))))
      (pss_cons (ps_set (i := 3) nd rfl (.inl rfl) (pe_call GR hr3 (by rfl) mR kR bR .nil pass0 (pa_cons (pv 0) (pa_cons (pv 2) (pa_cons (pe_op op_add (pe_call GD hr1 (by rfl) mD kD bD .nil pass0 (pa_cons (pv 0) (pa_cons pe_int pa_nil))) pe_int) pa_nil)))))
      (pss_cons (ps_if (PW.pt (pw_or (pt_not (pt_val (pe_callG GP g0 hr7 (by rfl) mP kP bP (pa_cons (pv 1) (pa_cons (pv 3) pa_nil)))))
          (pw_or (pt_not (pt_val (pe_call GH hr7 (by rfl) mH kH bH .nil pass0 (pa_cons (pv 0) (pa_cons (pv 2) (pa_cons (pv 3) pa_nil))))))
          (pw_or1 (pt_not (pt_val (pe_callG GE g0 hr (by rfl) mE kE bE (pa_cons (pv 0) (pa_cons (pv 2) pa_nil))))))))) (pss_one (ps_ret pe_bl)) pss_nil)
      (pss_cons (ps_set (i := 4) nd rfl (.inl rfl) (pe_call GD hr1 (by rfl) mD kD bD .nil pass0 (pa_cons (pv 0) (pa_cons (pe_callB call_len_seq (by rfl) T.len boot_len (pa_cons (pv 3) pa_nil)) pa_nil))))
      (pss_cons (ps_set (i := 5) nd rfl (.inl rfl) (pe_callTy call_list_of (by rfl) T.list boot_list (pa_cons (pv 3) pa_nil)))
      (pss_cons (ps_asg (pe_tup (pa_cons (pe_ix (r := rIxT K) ix_tup (pe_ix (r := rIxL K) ix_list (pv 3) (pv 4) (fun _ _ => rfl)) pe_int (fun _ _ => rfl)) (pa_cons (pe_op op_add (pe_ix (r := rIxT K) ix_tup (pe_ix (r := rIxL K) ix_list (pv 3) (pv 4) (fun _ _ => rfl)) pe_int (fun _ _ => rfl))
          (pe_call GK hr2 (by rfl) mK kK bK .nil pass0 (pa_cons (pv 0) (pa_cons (pe_lst (pa_cons pe_int (pa_cons (pe_un un_neg pe_int) (pa_cons pe_int (pa_cons (pv 1) (pa_cons (pe_op op_sub pe_int (pv 1)) (pa_cons (pe_op op_add (pe_op op_mul pe_int (pv 1)) pe_int) pa_nil))))))) pa_nil)))) pa_nil))) (pg_sub (pv 5) (pv 4) set_list))
      (pss_cons (ps_if (PW.pt (pw_or (pt_not (pt_val (pe_callG GP g0 hr7 (by rfl) mP kP bP (pa_cons (pv 1) (pa_cons (pv 5) pa_nil)))))
          (pw_or1 (pt_not (pt_val (pe_callG GP g0 hr7 (by rfl) mP kP bP (pa_cons (pv 1) (pa_cons (pe_op op_cat (pv 5) (pv 3)) pa_nil)))))))) (pss_one (ps_ret pe_bl)) pss_nil)
      (pss_cons (ps_setLc (i := 6) (own := [("_law_turn", 7)]) (g := gName 7) (tt := tYes) rfl nd rfl rfl (sw_true rfl rfl rfl (by decide +kernel)) (pi_range1 (by rfl) T.range (pa_cons (pe_op op_add (pe_call GD hr1 (by rfl) mD kD bD .nil pass0 (pa_cons (pv 0) (pa_cons pe_int pa_nil))) pe_int) pa_nil)) (blkOk_by (N := nRight) (sc := defScope sRight) (by decide +kernel))
          (fun _ _ _ _ _ => pg_name (i := 7) nd rfl (.inl rfl)) (fun _ _ _ _ _ => pts_nil) (fun _ _ _ _ _ => pe_tup (pa_cons (pe_op op_sub (pe_call GD hr1 (by rfl) mD kD bD .nil pass0 (pa_cons (pv 0) (pa_cons (pe_op op_mul pe_int (pv 1)) pa_nil))) (pv 1)) (pa_cons (pe_op op_sub (pe_call GD hr1 (by rfl) mD kD bD .nil pass0 (pa_cons (pv 0) (pa_cons (pe_op op_mul pe_int (pv 1)) pa_nil))) (pv 1)) pa_nil))))
      (pss_one (ps_ret (pe_callG GP g0 hr7 (by rfl) mP kP bP (pa_cons (pv 1) (pa_cons (pv 6) pa_nil))))))))))))), ?_⟩
    -- the length
    refine ⟨_, rfl, (by show 9 ≤ sizeLine; decide), fun b nb => ?_⟩
    have nbp := hp.ne nb
    have s1 := same_new (o := .lst (vi [1, 2, 3, 4, 5, 6, 7, 8, 12])) nb
    refine ⟨p, b, [1, 2, 3, 4, 5, 6, 7, 8, 12], rfl, hp.same s1, (by rw [cut_ne nbp]; exact upd_same), (by show 0 < 9; decide), (by show 9 ≤ 1000; decide), fun j H2 hj k2 => ?_⟩
    obtain ⟨n, en, n0, n1⟩ : ∃ n : Nat, ([1, 2, 3, 4, 5, 6, 7, 8, 12] : List Int).getD j 0 = (n : Int) ∧ 0 < n ∧ n ≤ 12 := by
      have all : ∀ y, y ∈ ([1, 2, 3, 4, 5, 6, 7, 8, 12] : List Int) → ∃ n : Nat, y = (n : Int) ∧ 0 < n ∧ n ≤ 12 := fun y hy => by
        simp only [List.mem_cons, List.not_mem_nil, or_false] at hy
        refine ⟨y.toNat, ?_, ?_, ?_⟩ <;> omega
      exact all _ (getD_mem hj)
    rw [en]
    have k02 : Kp p H H2 := (Kp.of hp s1).trans k2
    -- the days
    refine ⟨_, rfl, _, rfl, _, rfl, 3, rfl, _, rfl, _, _, rfl, rfl, ⟨by decide, by decide, by decide⟩, _, _, rfl, rfl, (by show 6 ≤ sizeLine; decide), fun b2 nb2 => ?_⟩
    have nbp2 := k2.pot.ne nb2
    have s3 := same_new (o := .lst (vi [0, 1, -3, (n : Int), 50, 0 - 10 ^ 7])) nb2
    refine ⟨p, b2, [0, 1, -3, (n : Int), 50, 0 - 10 ^ 7], rfl, k2.pot.same s3, (by rw [cut_ne nbp2]; exact upd_same), (by show 0 < 6; decide), (by show 6 ≤ 1000; decide), fun j2 H4 hj2 k4 => ?_⟩
    have zb : -10000000 ≤ ([0, 1, -3, (n : Int), 50, 0 - 10 ^ 7] : List Int).getD j2 0 ∧ ([0, 1, -3, (n : Int), 50, 0 - 10 ^ 7] : List Int).getD j2 0 ≤ 50 := by
      have all : ∀ y, y ∈ ([0, 1, -3, (n : Int), 50, 0 - 10 ^ 7] : List Int) → -10000000 ≤ y ∧ y ≤ 50 := fun y hy => by
        simp only [List.mem_cons, List.not_mem_nil, or_false] at hy
        rcases hy with h | h | h | h | h | h
        · omega
        · omega
        · omega
        · omega
        · omega
        · rw [h]
          decide
      exact all _ (getD_mem hj2)
    generalize ([0, 1, -3, (n : Int), 50, 0 - 10 ^ 7] : List Int).getD j2 0 = z at zb
    have k04 : Kp p H H4 := (k02.trans (Kp.of k2.pot s3)).trans k4
    refine ⟨p, n, z, rfl, n0, by omega, k04.pot, fun l H5 days k5 nl hl hlen tab0 dbd => ?_⟩
    have k05 := k04.trans k5
    have nlp := k04.pot.ne nl
    have hl5 : cut p H5 l = some (.lst (vi days)) := by
      rw [cut_ne nlp]
      exact hl
    have bd : ∀ i, i < days.length → -20000000 ≤ days.getD i 0 ∧ days.getD i 0 ≤ 20000000 := fun i hi => by
      have := dbd i (by omega)
      omega
    have d0' : 0 < days.length := by omega
    -- the rows
    refine ⟨_, rfl, _, rfl, _, rfl, p, 8, rfl, by decide, by decide, k05.pot, fun u H6 u0 u1 k6 => ?_⟩
    have k06 := k05.trans k6
    refine ⟨_, _, rfl, rfl, p, l, days, (u + 1).toNat, (by rw [Int.toNat_of_nonneg (by omega)]; rfl), k06.pot, k6.same _ _ hl5, d0', by omega, by omega, fun D H7 xs rows k7 nD R7 hrl hrows => ?_⟩
    have k07 := k06.trans k7
    have hl7 := k7.same _ _ (k6.same _ _ hl5)
    have bdr' : ∀ r, r ∈ rows → -1000000 ≤ r.1 ∧ r.1 ≤ 1002400 ∧ -30000000 ≤ r.2 ∧ r.2 ≤ 30000000 := fun r hr => by
      obtain ⟨h1, h2, h3⟩ := hrows r hr
      have b2 := onD_bd (B := 20000000) d0' bd r.1
      rw [h1] at b2
      omega
    have bdr : Bd rows := fun r hr => by
      have := bdr' r hr
      omega
    refine ⟨_, rfl, _, rfl, n, D, xs, rows, rfl, n0, by omega, R7.of_cut, by omega, by omega, bdr, fun H8 s8 => ⟨true, rfl, iteF ?_⟩⟩
    have k08 : Kp p H H8 := k07.trans (Kp.of k07.pot s8)
    have hl8 := same_cut s8 _ _ hl7
    have R8 := R7.same (same_cut s8)
    refine ⟨_, rfl, _, rfl, _, rfl, p, l, D, days, xs, rows, rfl, k08.pot, hl8, tab0, R8, by omega, by omega, fun r hr => (hrows r hr).1, fun H9 k9 => ⟨true, rfl, iteF ?_⟩⟩
    have k09 := k08.trans k9
    have hl9 := k9.same _ _ hl8
    have R9 := R8.same k9.same
    refine ⟨_, rfl, _, rfl, p, l, days, rfl, k09.pot, hl9, tab0, by omega, bd, fun H10 k10 => ⟨true, rfl, iteF ?_⟩⟩
    have k010 := k09.trans k10
    have R10 := R9.same k10.same
    have xl := R10.rows.len
    -- one row is spoilt
    refine ⟨_, rfl, _, rfl, D, _, rfl, .inl (SqL.of R10.of_cut.at_), p, _, rfl, by omega, by omega, k010.pot, fun d H11 d0 d1 k11 => ?_⟩
    obtain ⟨at', rfl⟩ : ∃ i : Nat, d = (i : Int) := ⟨d.toNat, by omega⟩
    have hat : at' < rows.length := by omega
    have k011 := k010.trans k11
    have R11 := R10.same k11.same
    refine ⟨_, rfl, D, _, rfl, .inl (SqL.of R11.of_cut.at_), fun c nc => ?_⟩
    have ncp := k011.pot.ne nc
    have s12 := same_new (o := .lst xs) nc
    have R12 := R11.same (same_cut s12)
    have hc12 : upd H11 c (.lst xs) c = some (.lst xs) := upd_same
    have p12 := k011.pot.same s12
    have k1112 : Kp p H11 (upd H11 c (.lst xs)) := Kp.of k011.pot s12
    generalize upd H11 c (.lst xs) = H12 at s12 R12 hc12 p12 k1112
    obtain ⟨t, et, ht⟩ := R12.of_cut.rows.tup hat
    have hD12 := R12.of_cut.at_
    refine ⟨_, rfl, _, rfl, D, _, _, _, rfl, rfl, SqL.of hD12, atI_nat (j := at') et, t, _, _, _, rfl, rfl, SqT.of ht, atI_nat (j := 0) rfl, ?_⟩
    refine ⟨_, rfl, _, rfl, D, _, _, _, rfl, rfl, SqL.of hD12, atI_nat (j := at') et, t, _, _, _, rfl, rfl, SqT.of ht, atI_nat (j := 1) rfl, ?_⟩
    refine ⟨_, rfl, 1, rfl, _, rfl, _, rfl, _, _, rfl, rfl, _, rfl, _, _, rfl, rfl, .inl ⟨by decide, by decide⟩, _, _, rfl, rfl, (by show 6 ≤ sizeLine; decide), fun b3 nb3 => ?_⟩
    have nbp3 := p12.ne nb3
    have s13 := same_new (o := .lst (vi [1, -1, 2, (n : Int), 0 - (n : Int), 3 * (n : Int) + 1])) nb3
    refine ⟨p, b3, [1, -1, 2, (n : Int), 0 - (n : Int), 3 * (n : Int) + 1], rfl, p12.same s13, (by rw [cut_ne nbp3]; exact upd_same), (by show 0 < 6; decide), (by show 6 ≤ 1000; decide), fun j3 H14 hj3 k14 => ?_⟩
    have yb : -100 ≤ ([1, -1, 2, (n : Int), 0 - (n : Int), 3 * (n : Int) + 1] : List Int).getD j3 0 ∧ ([1, -1, 2, (n : Int), 0 - (n : Int), 3 * (n : Int) + 1] : List Int).getD j3 0 ≤ 100 := by
      have all : ∀ y, y ∈ ([1, -1, 2, (n : Int), 0 - (n : Int), 3 * (n : Int) + 1] : List Int) → -100 ≤ y ∧ y ≤ 100 := fun y hy => by
        simp only [List.mem_cons, List.not_mem_nil, or_false] at hy
        omega
      exact all _ (getD_mem hj3)
    generalize ([1, -1, 2, (n : Int), 0 - (n : Int), 3 * (n : Int) + 1] : List Int).getD j3 0 = y at yb
    have k1214 : Kp p H12 H14 := (Kp.of p12 s13).trans k14
    have R14 := R12.same k1214.same
    have hc14 := k1214.at_ hc12 ncp
    refine ⟨_, _, rfl, rfl, (by show 2 ≤ sizeLine; decide), fun t2 nt2 => ?_⟩
    have ntp := k1214.pot.ne nt2
    have s15 := same_new (o := .tup [.int (at_ rows at').1, .int ((at_ rows at').2 + y)]) nt2
    have k1215 : Kp p H12 _ := k1214.trans (Kp.of k1214.pot s15)
    have R15 := R14.same (same_cut s15)
    have hc15 := s15 _ _ hc14
    have ht15 : cut p (upd H14 t2 (.tup [.int (at_ rows at').1, .int ((at_ rows at').2 + y)])) t2 = some (.tup [.int (at_ rows at').1, .int ((at_ rows at').2 + y)]) := by
      rw [cut_ne ntp]
      exact upd_same
    generalize upd H14 t2 (.tup [.int (at_ rows at').1, .int ((at_ rows at').2 + y)]) = H15 at k1215 R15 hc15 ht15
    refine ⟨_, rfl, _, rfl, c, xs, _, at', rfl, rfl, hc15, ixN_in (by omega), ?_⟩
    have k016 : Kp p H11 (upd H15 c (.lst (xs.set at' (.ref t2)))) := (k1112.trans k1215).off nc ncp
    have R16 := R11.same k016.same
    have S15 : RowsV (cut p H15) (xs.set at' (.ref t2)) (rows.set at' ((at_ rows at').1, (at_ rows at').2 + y)) := R15.rows.put at' ht15
    have S16 : RowsAt (upd H15 c (.lst (xs.set at' (.ref t2)))) true c (xs.set at' (.ref t2)) (rows.set at' ((at_ rows at').1, (at_ rows at').2 + y)) := ⟨upd_same, (rows_off S15 hc15).same (cut_same p _)⟩
    have atb := bdr' _ (at_mem hat)
    have bds : Bd (rows.set at' ((at_ rows at').1, (at_ rows at').2 + y)) := bdr.put at' ⟨by show _ ≤ (at_ rows at').1; omega, by show (at_ rows at').1 ≤ _; omega, by show _ ≤ (at_ rows at').2 + y; omega, by show (at_ rows at').2 + y ≤ _; omega⟩
    have sl : (rows.set at' ((at_ rows at').1, (at_ rows at').2 + y)).length = rows.length := List.length_set
    have xl2 : (xs.set at' (.ref t2)).length = rows.length := by rw [List.length_set]; omega
    generalize rows.set at' ((at_ rows at').1, (at_ rows at').2 + y) = rows2 at S16 bds sl
    generalize xs.set at' (.ref t2) = xs2 at k016 R16 S16 xl2
    generalize upd H15 c (.lst xs2) = H16 at k016 R16 S16
    have k0016 := k011.trans k016
    refine ⟨_, rfl, _, rfl, n, c, xs2, rows2, rfl, n0, by omega, S16, by omega, by omega, bds, fun H17 s17 => ⟨true, rfl, iteF ?_⟩⟩
    have S17 := S16.same s17
    have R17 := R16.of_cut.same s17
    have hc17 := S17.at_
    have hD17 := R17.at_
    refine ⟨_, rfl, _, rfl, _, rfl, c, D, _, _, rfl, rfl, hc17, hD17, (by rw [xl2, xl]; exact Nat.le_of_lt (small1000 (by omega))), fun m nm => ?_⟩
    have s18 := same_new (o := .lst (xs2 ++ xs)) nm
    refine ⟨n, m, xs2 ++ xs, rows2 ++ rows, rfl, n0, by omega, ⟨upd_same, (S17.rows.append R17.rows).same s18⟩, by rw [List.length_append]; omega, by rw [List.length_append]; omega, bds.append bdr, fun H19 s19 => ⟨true, rfl, iteF ?_⟩⟩
    have k019 : Kp p H H19 := k0016.trans (Kp.of k0016.pot ((s17.trans s18).trans s19))
    -- rows at will
    refine ⟨_, rfl, p, 4, rfl, by decide, by decide, k019.pot, fun u H20 u0 u1 k20 => ?_⟩
    have k020 := k019.trans k20
    refine ⟨_, _, rfl, rfl, _, rfl, by omega, by omega, fun Dn nDn => ?_⟩
    have nDp := k020.pot.ne nDn
    refine lc_range (lo := 0) (n := (u + 1).toNat) (fun i H' => ∃ (ys : List V) (more : List Row), Kp p H20 H' ∧ H' Dn = some (.lst ys) ∧ RowsV (cut p H') ys more ∧ more.length = i ∧ Bd more) ⟨[], [], Kp.new k020.pot nDn, upd_same, ⟨rfl, fun i r h => by simp at h⟩, rfl, fun r hr => by cases hr⟩ (fun i H' hi hP => ?_) fun H' hP => ?_
    · obtain ⟨ys, more, kx, hDn, RM, lm, bm⟩ := hP
      refine ⟨wipe1 _ _ _, ?_⟩
      unfold tYes
      refine iteT ?_
      refine ⟨_, rfl, _, rfl, _, _, rfl, rfl, .inl ⟨by decide, by decide⟩, p, _, rfl, by omega, by omega, kx.pot, fun a1 G1 a10 a11 ka => ?_⟩
      refine ⟨_, rfl, _, _, rfl, rfl, ?_⟩
      refine ⟨_, rfl, _, rfl, _, _, rfl, rfl, .inl ⟨by decide, by decide⟩, p, _, rfl, by omega, by omega, ka.pot, fun a2 G2 a20 a21 kb => ?_⟩
      refine ⟨_, rfl, _, _, rfl, rfl, (by show 2 ≤ sizeLine; decide), fun t4 nt4 => ?_⟩
      have kab := ka.trans kb
      have ntp4 := kab.pot.ne nt4
      have s4 := same_new (o := .tup [.int (a1 - n), .int (a2 - n)]) nt4
      have hG2 := kab.at_ hDn nDp
      have hG3 := s4 _ _ hG2
      have kx3 : Kp p H' _ := kab.trans (Kp.of kab.pot s4)
      have RM3 := ((RM.same kab.same).same (same_cut s4)).snoc (r := (a1 - n, a2 - n)) (t := t4) (by rw [cut_ne ntp4]; exact upd_same)
      refine ⟨ys, hG3, ?_, ys ++ [.ref t4], more ++ [(a1 - n, a2 - n)], (kx.trans kx3).off nDn nDp, upd_same, rows_off RM3 hG3, by rw [List.length_append, lm]; rfl, bm.append fun r hr => ?_⟩
      · rw [RM.len]
        exact small1000 (by omega)
      · have e : r = (a1 - n, a2 - n) := by simpa using hr
        subst e
        refine ⟨?_, ?_, ?_, ?_⟩
        · show -1000000000 ≤ a1 - n
          omega
        · show a1 - n ≤ 1000000000
          omega
        · show -1000000000 ≤ a2 - n
          omega
        · show a2 - n ≤ 1000000000
          omega
    · obtain ⟨ys, more, kx, hDn, RM, lm, bm⟩ := hP
      refine ⟨_, rfl, _, rfl, n, Dn, ys, more, rfl, n0, by omega, ⟨hDn, RM.same (cut_same p H')⟩, by omega, by omega, bm, fun H22 s22 => ?_⟩
      exact q _ (k020.trans (kx.trans (Kp.of kx.pot s22)))
/-! ### the law -/
def spLaw (K : PySem.W.Frag) : Sp := fun vs H Q _ => ∃ (a : Addr) (ns : List Int), vs = [.ref a] ∧ SqL K H a (ns.map V.int) ∧ ∀ H', Q (.bl true) H'
abbrev nLaw : List Str := ["_law_script", "_law_k"]
theorem scLaw : FnScope nLaw ["_law_script"] (defScope sLaw) := ⟨rfl, rfl, rfl, by decide +kernel, rfl, by decide +kernel, by decide +kernel⟩
theorem ok_law {fP fR : Addr} {dP dR : FuncData} (F : Fun K "law" "law" sLaw f fd)
    (GP : FnOk P w K mg base CX0 1 fP dP ["_law_script", "_law_k"] (spPot K)) (kP : PySem.W.keepIn K (.ref fP) = true) (bP : Binds K dP ["_law_script", "_law_k"] []) (mP : mg "_law_pot" = some (.ref fP))
    (GR : FnG P w K mg base 9 fR dR ["_law_pot_here"] spRight) (kR : PySem.W.keepIn K (.ref fR) = true) (bR : Binds K dR ["_law_pot_here"] []) (mR : mg "_law_right" = some (.ref fR))
    (T : Txt K mg C) : FnG P w K mg base 10 f fd ["_law_script"] (spLaw K) := by
  have nd := scLaw.nd
  refine okG F scLaw (fun vs H Q E h => ?_) (fun cdv A outer s H vs Q E g0 hr h => ?_)
  · obtain ⟨a, ns, rfl, _⟩ := h
    rfl
  · obtain ⟨a, ns, rfl, hS, q⟩ := h
    have hr1 : Room 1 _ := hr.mono (by decide)
    refine ⟨_, pss_one (ps_ret (pe_callB (cr_all rfl) (by rfl) T.all boot_all (pa_cons (pe_lc (own := [("_law_k", 1)]) (g := gName 1) (tt := tYes) rfl nd
        (pi_range1 (by rfl) T.range (pa_cons (pe_callB (call_max2 rfl) (by rfl) T.max boot_max (pa_cons pe_int (pa_cons (pe_callB (call_min2 rfl) (by rfl) T.min boot_min (pa_cons pe_int (pa_cons (pe_callB call_len_seq (by rfl) T.len boot_len (pa_cons (pv 0) pa_nil)) pa_nil))) pa_nil))) pa_nil)) (blkOk_by (N := nLaw) (sc := defScope sLaw) (by decide +kernel))
        (fun _ _ _ _ _ => pg_name (i := 1) nd rfl (.inl rfl)) (fun _ _ _ _ _ => pts_nil) (fun _ _ _ _ _ => pe_callG GR g0 hr (by rfl) mR kR bR (pa_cons (pe_call GP hr1 (by rfl) mP kP bP .nil pass0 (pa_cons (pv 0) (pa_cons (pv 1) pa_nil))) pa_nil))) pa_nil))), ?_⟩
    refine ⟨_, rfl, a, _, rfl, .inl hS, _, _, rfl, _, _, rfl, _, rfl, ?_⟩
    generalize hc : (if (if ((ns.map V.int).length : Int) < 3 then ((ns.map V.int).length : Int) else 3) > 1 then (if ((ns.map V.int).length : Int) < 3 then ((ns.map V.int).length : Int) else 3) else 1) = c
    have c3 : c ≤ 3 := by
      rw [← hc]
      split
      · split <;> omega
      · omega
    refine ⟨by omega, by omega, fun D nD => ?_⟩
    refine comp_rng (σ := [some (.ref a), none]) (j := 1) (n := c.toNat) (te := fun σ H Q => tCons (tCall (spPot K) [] E0 (tCons (tVar 0) (tCons (tVar 1) tNil))) tNil σ H fun vs H1 => spRight vs H1 Q E0) nD (fun _ => V.bl true) (by omega) (fun i H1 hi s1 W r => ?_) fun H1 s1 eD => ?_
    · refine ⟨_, rfl, _, rfl, a, ns, i, (by rw [Int.zero_add]; rfl), s1.seq hS, by omega, fun p H2 s2 np hp => ?_⟩
      exact ⟨p, rfl, hp, fun H3 k3 => r _ (k3.out s2 np)⟩
    · refine ⟨D, (List.range c.toNat).map fun _ => true, rfl, SqL.of (by rw [eD, List.map_map]; rfl), ?_⟩
      rw [all_true]
      exact q _
end
end K16
set_option maxRecDepth 100000
set_option maxHeartbeats 4000000
/-! From the law's promise to the row's goal, where the promise knows that no guard stands around. -/
namespace K16
open PySem PySem.Spec PyProof.Rows L2
/-- the heap in which nothing but the script may be known -/
structure Alone (P : Program) (w : World) (K : PySem.W.Frag) (a : Addr) (ns : List Int) (h : Heap) (H : Hp) : Prop where
  ok : HOk P w H h
  only : ∀ b, H b = none ∨ (b = a ∧ ∃ o xs, H b = some (.frz o (.lst xs)))
  off : ∀ b o, K.lookup b = some o → H b = none
  seq : SqL K H a (ns.map V.int)
theorem alone {P : Program} {w : World} {K : PySem.W.Frag} {a : Addr} {ns : List Int} {vs : List Value} {h : Heap} (KX : K.In h) (ha : h.get? a = some { cls := .type "list", data := .seq vs.toArray }) (hi : IntsAre vs ns) (hl : ns.length ≤ sizeLine) : ∃ H : Hp, Alone P w K a ns h H := by
  have rv := vals_ints hi
  by_cases q : K.lookup a = none
  · -- the script is a list of its own
    let o0 : Obj := { cls := .type "list", data := .seq vs.toArray }
    let H : Hp := fun b => if b = a then some (.frz o0 (.lst (ns.map V.int))) else none
    have at_a : H a = some (.frz o0 (.lst (ns.map V.int))) := if_pos rfl
    have at_b : ∀ b, b ≠ a → H b = none := fun b nb => if_neg nb
    refine ⟨H, fun b u z => ?_, fun b => ?_, fun b o e => at_b b ?_, .inl (.inr ⟨o0, at_a⟩)⟩
    · by_cases hb : b = a
      · rw [hb, at_a] at z
        obtain rfl := Option.some.inj z
        rw [hb]
        exact ⟨ha, by rw [List.length_map]; exact hl, vs, _, rv, ha⟩
      · rw [at_b b hb] at z
        cases z
    · by_cases hb : b = a
      · exact .inr ⟨hb, o0, _, by rw [hb]; exact at_a⟩
      · exact .inl (at_b b hb)
    · intro hb
      rw [hb, q] at e
      cases e
  · -- the module keeps that very list
    obtain ⟨o, e⟩ := Option.ne_none_iff_exists'.mp q
    have e2 := KX a o e
    rw [ha] at e2
    obtain rfl := Option.some.inj e2
    have lenV := hi.length
    refine ⟨fun _ => none, fun b u z => ?_, fun b => .inl rfl, fun b o e => rfl, .inr ⟨_, vs.toArray, _, e, rfl, rfl, rfl, ?_, ?_⟩⟩
    · have z : (none : Option HO) = some u := z
      cases z
    · rw [List.size_toArray, lenV]
      exact hl
    · simpa using rv
section
variable {P : Program} {w : World} {K : PySem.W.Frag} {mg mb : Str → Option Value} {k : Nat} {fa a : Addr} {fd : FuncData} {x : Str} {sp : Sp} {s₁ : Shared} {vs : List Value} {ns : List Int}
theorem law_runG (KX : K.In s₁.heap) (hns : s₁.heap.Ns mainGlobals mg) (hb : s₁.heap.Ns builtinsNs mb) (hbb : ∀ y : Str, y ≠ "__name__" → mb y = bootBuiltins y) (hlim : s₁.heap.NoLimit) (hg : s₁.gens = #[])
    (ha : s₁.heap.get? a = some { cls := .type "list", data := .seq vs.toArray }) (hi : IntsAre vs ns) (hl : ns.length ≤ sizeLine) (hr : Room k callerA)
    (F : ∀ base : Heap, K.In base → base.Ns mainGlobals mg → FnG P w K mg base k fa fd [x] sp) (hbind : ∀ (s : Shared) (u : Value), BindsTo s fd ⟨[u], []⟩ [(x, u)])
    (hsp : ∀ H : Hp, SqL K H a (ns.map V.int) → sp [.ref a] H (fun v _ => v = .bl true) E0) :
    codeAny (model P w) callerA (.call (.ref fa) ⟨[.ref a], []⟩) (fun r s' => r = .ok (.ret (.bool true)) ∧ OldK s₁.heap s'.heap ∧ s'.os = s₁.os ∧ AllBare s'.gens) s₁ := by
  obtain ⟨H, L⟩ := alone (P := P) (w := w) KX ha hi hl
  -- what the module reads is no list of ours
  have free : ∀ {b : Addr} {m : Str → Option Value}, s₁.heap.Ns b m → (hidT s₁.heap H).Ns b m := fun {b m} n => by
    obtain ⟨o, es, ep, e, d, r⟩ := n
    refine ⟨o, es, ep, hidT_get e ?_, d, r⟩
    rcases L.only b with z | ⟨rfl, _⟩
    · exact z
    · rw [ha] at e
      obtain rfl := Option.some.inj e
      have d : Data.seq vs.toArray _ = Data.dict es ep := d
      cases d
  have hKb : K.In (hidT s₁.heap H) := fun b o e => hidT_get (KX b o e) (L.off b o e)
  have lim : (hidT s₁.heap H).NoLimit := by
    obtain ⟨mc, h1, h2⟩ := hlim
    exact ⟨mc, free h1, h2⟩
  have hM : Mod K mg (hidT s₁.heap H) := ⟨hKb, free hns, ⟨mb, free hb, hbb⟩, lim⟩
  have e0 : Env0 P w K mg (hidT s₁.heap H) callerA [] s₁ H := by
    refine ⟨rfl, hM, fun b o e => of_hidT e, Nat.le_of_eq (hidT_size _ _), trivial, fun b hb => ?_, L.ok, .of_eq hg⟩
    have hb : b ∈ ([] : List Addr) := hb
    cases hb
  have run := (F _ hKb (free hns)).run callerA [] s₁ H ⟨[.ref a], []⟩ [.ref a] [.ref a] (fun v _ => v = .bl true) E0 rfl hr e0 (hbind s₁ _) (.cons rfl .nil) (hsp H L.seq)
  refine codeAny_mono run fun r s' h => ?_
  rcases r with e | fl
  · exact False.elim h
  have only_ret : ∃ u, fl = .ret u := by
    cases fl with
    | ret u => exact ⟨u, rfl⟩
    | _ => exact False.elim h
  obtain ⟨u, rfl⟩ := only_ret
  obtain ⟨v, H', os, bare, un, hok', ru, hv⟩ := h
  have hv : v = .bl true := hv
  subst hv
  have ru : u = Value.bool true := ru
  subst ru
  refine ⟨rfl, OldK.of_keep fun b o e => ?_, os, bare⟩
  rcases L.only b with z | ⟨rfl, o2, xs, z⟩
  · refine un.keep b o e z (fun m => ?_) (by simp)
    have m : b ∈ ([] : List Addr) := m
    cases m
  · have was := (L.ok b _ z).1
    rw [e] at was
    obtain rfl := Option.some.inj was
    exact (hok' b _ (un.frzs b _ _ z)).1
end
theorem walk_ofG {l : PySem.W.OpenLaw} {n k : Nat} {q : Program} {loose : List Str} {XP : (Str → Option Value) → Heap → Prop} {YP : World → Heap → Prop} {d : DefRec} {K : Params → PySem.W.Frag} {sp : PySem.W.Frag → Sp} {x : Str}
    (hn : l.most = some n) (hn2 : n ≤ sizeLine) (hdf : d.params.defaults = []) (hr : Room k callerA) (hY : ∀ (w : World) (h : Heap), YP w h → (K w.params).In h)
    (F : ∀ (w : World) (mg : Str → Option Value) (fa : Addr) (h : Heap), (K w.params).In h → h.Ns mainGlobals mg → mg d.name = some (.ref fa) →
      ∃ fd : FuncData, (∀ (s : Shared) (u : Value), BindsTo s fd ⟨[u], []⟩ [(x, u)]) ∧ ∀ base : Heap, (K w.params).In base → base.Ns mainGlobals mg → FnG l.prog w (K w.params) mg base k fa fd [x] (sp (K w.params)))
    (hsp : ∀ (K : PySem.W.Frag) (H : Hp) (a : Addr) (ns : List Int), ns.length ≤ n → SqL K H a (ns.map V.int) → sp K [.ref a] H (fun v _ => v = .bl true) E0) :
    PySem.W.WalkO q loose XP YP l.row.toRowW d [] (fun f vs => PySem.call f vs) := by
  refine Att.attach_call hn hdf fun w s₀ s₁ mg mb fa o pm cd doc a vs ns G Y ho hd hcd hmg hobj hints hlen hg => ?_
  obtain ⟨fd, hbind, hF⟩ := F w mg fa _ (hY w _ Y) G.T.g hmg
  exact law_runG (hY w _ Y) G.T.g G.T.b G.T.builtins G.T.nolimit hg hobj hints (Nat.le_trans hlen hn2) hr hF hbind fun H hS => hsp _ H a ns hlen hS
end K16
set_option maxRecDepth 100000
set_option maxHeartbeats 4000000
/-! What the top has left, as facts that k_is finds; the law over them. Printed by gen_end.py. -/
namespace K16
open PySem PySem.Spec PyProof.Rows L2
/-- a def of the module -/
def GDef (K : PySem.W.Frag) (x : Str) (st : Stmt) : Prop := ∃ (f : Addr) (fd : FuncData), PySem.W.nsIn K mainGlobals x = some (some (.ref f)) ∧ Fun K x x st f fd
/-- a def of the class -/
def MDef (K : PySem.W.Frag) (C : Addr) (x qual : Str) (st : Stmt) : Prop := ∃ (f : Addr) (fd : FuncData), Meth K C x f ∧ Fun K x qual st f fd
/-- a property of the class -/
def PDef (K : PySem.W.Frag) (C : Addr) (x qual : Str) (st : Stmt) : Prop := ∃ (p f : Addr) (fd : FuncData), PropOf K C x p f ∧ Fun K x qual st f fd
section
variable {K : PySem.W.Frag} {C : Addr} {x qual : Str} {st : Stmt} {f p : Addr} {oc kV doc pm cdv ct : Value} {od an : Option Addr} {sl : Array (Option Value)} {rest : List Value}
theorem glo_mk (a : PySem.W.nsIn K mainGlobals x = some (some (.ref f))) (l : K.lookup f = some ⟨oc, od, .func (PySem.W.fnOf x x (defArgs st) (defBody st) (defScope st) .none kV doc pm an cdv ct), sl⟩)
    (c : PySem.W.codeIn K cdv x = true) (k : PySem.W.keepIn K (.ref f) = true) : GDef K x st := ⟨f, _, a, fun_mk l c k⟩
theorem met_mk (a : PySem.W.findIn K (.ref C) x = some (some (.ref f))) (i : PySem.W.isFn K (.ref f) = true) (l : K.lookup f = some ⟨oc, od, .func (PySem.W.fnOf x qual (defArgs st) (defBody st) (defScope st) .none kV doc pm an cdv ct), sl⟩)
    (c : PySem.W.codeIn K cdv qual = true) (k : PySem.W.keepIn K (.ref f) = true) : MDef K C x qual st := ⟨f, _, ⟨a, i, k⟩, fun_mk l c k⟩
theorem prp_mk (a : PySem.W.findIn K (.ref C) x = some (some (.ref p))) (g : PySem.W.specialIn K (.ref p) "__get__" = some (some (.builtin "property.__get__"))) (t : PySem.W.takesIn K (.ref p) = some true) (r : PySem.W.recIn K p "property" = some (.ref f :: rest))
    (l : K.lookup f = some ⟨oc, od, .func (PySem.W.fnOf x qual (defArgs st) (defBody st) (defScope st) .none kV doc pm an cdv ct), sl⟩)
    (c : PySem.W.codeIn K cdv qual = true) (k : PySem.W.keepIn K (.ref f) = true) : PDef K C x qual st := ⟨p, f, _, ⟨a, g, t, rest, r⟩, fun_mk l c k⟩
theorem swap_binds {f : Addr} {fd : FuncData} (F : Fun K x x st f fd) (h : ∀ (kV doc pm : Value) (an : Option Addr) (cdv ct : Value) (r c : Value), bindArgs (PySem.W.fnOf x x (defArgs st) (defBody st) (defScope st) .none kV doc pm an cdv ct) ⟨[], [("rows", r), ("count", c)]⟩ = pure [(("count" : Str), c), (("rows" : Str), r)]) :
    KBinds K fd ["count", "rows"] ["rows", "count"] swapU swapV := by
  obtain ⟨oc, od, kV, doc, pm, an, cdv, ct, osl, rfl, _⟩ := F.ex
  refine ⟨fun s us ws _ hl => ?_, fun {vs us zs ws} r rz => ?_⟩
  · match us, ws, hl with
    | [], [a, b], _ => exact .of_eq (h kV doc pm an cdv ct a b)
    | [], [], hl => cases hl
    | [], [_], hl => cases hl
    | [], _ :: _ :: _ :: _, hl => cases hl
    | _ :: _, _, hl => cases hl
  · cases r with
    | cons r1 rs => exact .nil
    | nil =>
      cases rz with
      | nil => exact .nil
      | cons a1 rz =>
        cases rz with
        | nil => exact .nil
        | cons a2 rz =>
          cases rz with
          | nil => exact .cons a2 (.cons a1 .nil)
          | cons a3 rz => exact .nil
end

theorem all_mk {l : PySem.W.OpenLaw} {w : World} {K : PySem.W.Frag} {h : Heap} {mg : Str → Option Value} {fa C : Addr} {t1 t2 : Nat} (X : K.In h) (G : h.Ns mainGlobals mg) (hfa : mg "law" = some (.ref fa))
    (aC : PySem.W.nsIn K mainGlobals "Table" = some (some (.ref C)))
    (dInt : GDef K "is_integer" sInteger) (dLst : GDef K "is_list" sList) (dDay : GDef K "is_day" sDay)
    (dCnt : GDef K "is_count" sCount) (dWD : GDef K "want_day" sWantDay) (dWC : GDef K "want_count" sWantCount)
    (dWM : GDef K "want_at_most" sWantMost) (dFl : GDef K "floor_part" sFloor) (dTb : GDef K "is_table" sTable)
    (dWL : GDef K "want_length" sWantLen) (dCm : GDef K "common_length" sCommon) (dGp : GDef K "gaps_of" sGaps)
    (dFa : GDef K "first_above" sFirst) (dIR : GDef K "is_rows" sIsRows) (dBd : GDef K "brought_down" sBrought)
    (dWR : GDef K "wanted_rows" sWanted) (dEW : GDef K "earliest_with" sEarliest) (dLW : GDef K "latest_with" sLatest)
    (dPot : GDef K "_law_pot" sPot) (dDrw : GDef K "_law_draw" sDraw) (dPck : GDef K "_law_pick" sPick)
    (dLD : GDef K "_law_days" sLawDays) (dLO : GDef K "_law_on" sLawOn) (dEa : GDef K "_law_early" sEarly)
    (dLa : GDef K "_law_late" sLate) (dKp : GDef K "_law_is_kept" sKept) (dTo : GDef K "_law_told" sTold)
    (dDue : GDef K "_law_due" sDue) (dPr : GDef K "_law_pair_right" sPair) (dRd : GDef K "_law_read" sRead)
    (dBt : GDef K "_law_between" sBetween) (dHd : GDef K "_law_hidden_right" sHidden) (dEn : GDef K "_law_ends_right" sEnds)
    (dRt : GDef K "_law_right" sRight) (dLaw : GDef K "law" sLaw) (dIni : MDef K C "__init__" "Table.__init__" sInit)
    (dDys : MDef K C "days" "Table.days" sDays) (dOn : MDef K C "on" "Table.on" sOn) (dSrv : MDef K C "served" "Table.served" sServed)
    (dEq : MDef K C "__eq__" "Table.__eq__" sEq) (dLen : PDef K C "length" "Table.length" sLength)
    (pg : PySem.W.plainGet K C Str.empty = true)
    (hd : PySem.W.hasDictIn K C = true)
    (po : PySem.W.plainOver K C = true)
    (sa : PySem.W.findIn K (.ref C) "__setattr__" = some (some (.builtin "object.__setattr__")))
    (mk : PySem.W.makesIn K C = true)
    (kc : PySem.W.keepIn K (.ref C) = true)
    (nD : PySem.W.findIn K (.ref C) "own_days" = some none)
    (nL : PySem.W.findIn K (.ref C) "own_length" = some none)
    (cMost : PySem.W.nsIn K mainGlobals "MOST" = some (some (.int 600 t1)))
    (cRows : PySem.W.nsIn K mainGlobals "MOST_ROWS" = some (some (.int 60 t2)))
    (cLcm : PySem.W.nsIn K mainGlobals "lcm" = some (some (.builtin "math.lcm")))
    (ha : PySem.W.findIn K (.ref C) "__class__" = some (some (.builtin "object.__class__")))
    (hn : PySem.W.specialIn K (.builtin "object.__class__") "__get__" = some (some (.builtin "getset_descriptor.__get__")))
    (ht : PySem.W.takesIn K (.builtin "object.__class__") = some true)
    (hm : PySem.W.mroIn K C (.type "object") = some true)
    (ne : PySem.W.findIn K (.ref C) "__ne__" = some (some (.builtin "object.__ne__")))
    (zisinstance : PySem.W.nsIn K mainGlobals "isinstance" = some none)
    (zlen : PySem.W.nsIn K mainGlobals "len" = some none)
    (zall : PySem.W.nsIn K mainGlobals "all" = some none)
    (zrange : PySem.W.nsIn K mainGlobals "range" = some none)
    (zlist : PySem.W.nsIn K mainGlobals "list" = some none)
    (zsorted : PySem.W.nsIn K mainGlobals "sorted" = some none)
    (zenumerate : PySem.W.nsIn K mainGlobals "enumerate" = some none)
    (zmax : PySem.W.nsIn K mainGlobals "max" = some none)
    (zmin : PySem.W.nsIn K mainGlobals "min" = some none)
    (zabs : PySem.W.nsIn K mainGlobals "abs" = some none)
    (zint : PySem.W.nsIn K mainGlobals "int" = some none)
    (zdivmod : PySem.W.nsIn K mainGlobals "divmod" = some none)
    (zrepr : PySem.W.nsIn K mainGlobals "repr" = some none)
    (ztuple : PySem.W.nsIn K mainGlobals "tuple" = some none)
    (zbool : PySem.W.nsIn K mainGlobals "bool" = some none)
    : ∃ fd : FuncData, (∀ (s : Shared) (v : Value), BindsTo s fd ⟨[v], []⟩ [("_law_script", v)]) ∧ ∀ base : Heap, K.In base → base.Ns mainGlobals mg → FnG l.prog w K mg base 10 fa fd ["_law_script"] (spLaw K) := by
  obtain ⟨fInt, eInt, aInt, FInt⟩ := dInt
  have mInt : mg "is_integer" = some (.ref fInt) := PySem.W.mg_of X G aInt
  obtain ⟨fLst, eLst, aLst, FLst⟩ := dLst
  have mLst : mg "is_list" = some (.ref fLst) := PySem.W.mg_of X G aLst
  obtain ⟨fDay, eDay, aDay, FDay⟩ := dDay
  have mDay : mg "is_day" = some (.ref fDay) := PySem.W.mg_of X G aDay
  obtain ⟨fCnt, eCnt, aCnt, FCnt⟩ := dCnt
  have mCnt : mg "is_count" = some (.ref fCnt) := PySem.W.mg_of X G aCnt
  obtain ⟨fWD, eWD, aWD, FWD⟩ := dWD
  have mWD : mg "want_day" = some (.ref fWD) := PySem.W.mg_of X G aWD
  obtain ⟨fWC, eWC, aWC, FWC⟩ := dWC
  have mWC : mg "want_count" = some (.ref fWC) := PySem.W.mg_of X G aWC
  obtain ⟨fWM, eWM, aWM, FWM⟩ := dWM
  have mWM : mg "want_at_most" = some (.ref fWM) := PySem.W.mg_of X G aWM
  obtain ⟨fFl, eFl, aFl, FFl⟩ := dFl
  have mFl : mg "floor_part" = some (.ref fFl) := PySem.W.mg_of X G aFl
  obtain ⟨fTb, eTb, aTb, FTb⟩ := dTb
  have mTb : mg "is_table" = some (.ref fTb) := PySem.W.mg_of X G aTb
  obtain ⟨fWL, eWL, aWL, FWL⟩ := dWL
  have mWL : mg "want_length" = some (.ref fWL) := PySem.W.mg_of X G aWL
  obtain ⟨fCm, eCm, aCm, FCm⟩ := dCm
  have mCm : mg "common_length" = some (.ref fCm) := PySem.W.mg_of X G aCm
  obtain ⟨fGp, eGp, aGp, FGp⟩ := dGp
  have mGp : mg "gaps_of" = some (.ref fGp) := PySem.W.mg_of X G aGp
  obtain ⟨fFa, eFa, aFa, FFa⟩ := dFa
  have mFa : mg "first_above" = some (.ref fFa) := PySem.W.mg_of X G aFa
  obtain ⟨fIR, eIR, aIR, FIR⟩ := dIR
  have mIR : mg "is_rows" = some (.ref fIR) := PySem.W.mg_of X G aIR
  obtain ⟨fBd, eBd, aBd, FBd⟩ := dBd
  have mBd : mg "brought_down" = some (.ref fBd) := PySem.W.mg_of X G aBd
  obtain ⟨fWR, eWR, aWR, FWR⟩ := dWR
  have mWR : mg "wanted_rows" = some (.ref fWR) := PySem.W.mg_of X G aWR
  obtain ⟨fEW, eEW, aEW, FEW⟩ := dEW
  have mEW : mg "earliest_with" = some (.ref fEW) := PySem.W.mg_of X G aEW
  obtain ⟨fLW, eLW, aLW, FLW⟩ := dLW
  have mLW : mg "latest_with" = some (.ref fLW) := PySem.W.mg_of X G aLW
  obtain ⟨fPot, ePot, aPot, FPot⟩ := dPot
  have mPot : mg "_law_pot" = some (.ref fPot) := PySem.W.mg_of X G aPot
  obtain ⟨fDrw, eDrw, aDrw, FDrw⟩ := dDrw
  have mDrw : mg "_law_draw" = some (.ref fDrw) := PySem.W.mg_of X G aDrw
  obtain ⟨fPck, ePck, aPck, FPck⟩ := dPck
  have mPck : mg "_law_pick" = some (.ref fPck) := PySem.W.mg_of X G aPck
  obtain ⟨fLD, eLD, aLD, FLD⟩ := dLD
  have mLD : mg "_law_days" = some (.ref fLD) := PySem.W.mg_of X G aLD
  obtain ⟨fLO, eLO, aLO, FLO⟩ := dLO
  have mLO : mg "_law_on" = some (.ref fLO) := PySem.W.mg_of X G aLO
  obtain ⟨fEa, eEa, aEa, FEa⟩ := dEa
  have mEa : mg "_law_early" = some (.ref fEa) := PySem.W.mg_of X G aEa
  obtain ⟨fLa, eLa, aLa, FLa⟩ := dLa
  have mLa : mg "_law_late" = some (.ref fLa) := PySem.W.mg_of X G aLa
  obtain ⟨fKp, eKp, aKp, FKp⟩ := dKp
  have mKp : mg "_law_is_kept" = some (.ref fKp) := PySem.W.mg_of X G aKp
  obtain ⟨fTo, eTo, aTo, FTo⟩ := dTo
  have mTo : mg "_law_told" = some (.ref fTo) := PySem.W.mg_of X G aTo
  obtain ⟨fDue, eDue, aDue, FDue⟩ := dDue
  have mDue : mg "_law_due" = some (.ref fDue) := PySem.W.mg_of X G aDue
  obtain ⟨fPr, ePr, aPr, FPr⟩ := dPr
  have mPr : mg "_law_pair_right" = some (.ref fPr) := PySem.W.mg_of X G aPr
  obtain ⟨fRd, eRd, aRd, FRd⟩ := dRd
  have mRd : mg "_law_read" = some (.ref fRd) := PySem.W.mg_of X G aRd
  obtain ⟨fBt, eBt, aBt, FBt⟩ := dBt
  have mBt : mg "_law_between" = some (.ref fBt) := PySem.W.mg_of X G aBt
  obtain ⟨fHd, eHd, aHd, FHd⟩ := dHd
  have mHd : mg "_law_hidden_right" = some (.ref fHd) := PySem.W.mg_of X G aHd
  obtain ⟨fEn, eEn, aEn, FEn⟩ := dEn
  have mEn : mg "_law_ends_right" = some (.ref fEn) := PySem.W.mg_of X G aEn
  obtain ⟨fRt, eRt, aRt, FRt⟩ := dRt
  have mRt : mg "_law_right" = some (.ref fRt) := PySem.W.mg_of X G aRt
  obtain ⟨fLaw, eLaw, aLaw, FLaw⟩ := dLaw
  have mLaw : mg "law" = some (.ref fLaw) := PySem.W.mg_of X G aLaw
  obtain ⟨fIni, eIni, aIni, FIni⟩ := dIni
  obtain ⟨fDys, eDys, aDys, FDys⟩ := dDys
  obtain ⟨fOn, eOn, aOn, FOn⟩ := dOn
  obtain ⟨fSrv, eSrv, aSrv, FSrv⟩ := dSrv
  obtain ⟨fEq, eEq, aEq, FEq⟩ := dEq
  obtain ⟨pLen, fLen, eLen, aLen, FLen⟩ := dLen
  have bInt : Binds K eInt ["value"] [] := FInt.binds (ps := ["value"]) fun _ _ _ _ _ _ us hl => match us, hl with | [_], _ => rfl
  have bLst : Binds K eLst ["value"] [] := FLst.binds (ps := ["value"]) fun _ _ _ _ _ _ us hl => match us, hl with | [_], _ => rfl
  have bDay : Binds K eDay ["value"] [] := FDay.binds (ps := ["value"]) fun _ _ _ _ _ _ us hl => match us, hl with | [_], _ => rfl
  have bCnt : Binds K eCnt ["value"] [] := FCnt.binds (ps := ["value"]) fun _ _ _ _ _ _ us hl => match us, hl with | [_], _ => rfl
  have bWD : Binds K eWD ["value"] [] := FWD.binds (ps := ["value"]) fun _ _ _ _ _ _ us hl => match us, hl with | [_], _ => rfl
  have bWC : Binds K eWC ["value"] [] := FWC.binds (ps := ["value"]) fun _ _ _ _ _ _ us hl => match us, hl with | [_], _ => rfl
  have bWM : Binds K eWM ["what", "limit", "number"] [] := FWM.binds (ps := ["what", "limit", "number"]) fun _ _ _ _ _ _ us hl => match us, hl with | [_, _, _], _ => rfl
  have bFl : Binds K eFl ["day", "length"] [] := FFl.binds (ps := ["day", "length"]) fun _ _ _ _ _ _ us hl => match us, hl with | [_, _], _ => rfl
  have bTb : Binds K eTb ["value"] [] := FTb.binds (ps := ["value"]) fun _ _ _ _ _ _ us hl => match us, hl with | [_], _ => rfl
  have bWL : Binds K eWL ["count"] [] := FWL.binds (ps := ["count"]) fun _ _ _ _ _ _ us hl => match us, hl with | [_], _ => rfl
  have bCm : Binds K eCm ["table", "other_table"] [] := FCm.binds (ps := ["table", "other_table"]) fun _ _ _ _ _ _ us hl => match us, hl with | [_, _], _ => rfl
  have bGp : Binds K eGp ["table", "other_table"] [] := FGp.binds (ps := ["table", "other_table"]) fun _ _ _ _ _ _ us hl => match us, hl with | [_, _], _ => rfl
  have bFa : Binds K eFa ["table", "other_table"] [] := FFa.binds (ps := ["table", "other_table"]) fun _ _ _ _ _ _ us hl => match us, hl with | [_, _], _ => rfl
  have bIR : Binds K eIR ["value"] [] := FIR.binds (ps := ["value"]) fun _ _ _ _ _ _ us hl => match us, hl with | [_], _ => rfl
  have bBd : Binds K eBd ["length", "rows"] [] := FBd.binds (ps := ["length", "rows"]) fun _ _ _ _ _ _ us hl => match us, hl with | [_, _], _ => rfl
  have bWR : Binds K eWR ["count", "rows"] [] := FWR.binds (ps := ["count", "rows"]) fun _ _ _ _ _ _ us hl => match us, hl with | [_, _], _ => rfl
  have bEW : Binds K eEW ["count", "rows"] [] := FEW.binds (ps := ["count", "rows"]) fun _ _ _ _ _ _ us hl => match us, hl with | [_, _], _ => rfl
  have bLW : Binds K eLW ["count", "rows"] [] := FLW.binds (ps := ["count", "rows"]) fun _ _ _ _ _ _ us hl => match us, hl with | [_, _], _ => rfl
  have bPot : Binds K ePot ["_law_script", "_law_k"] [] := FPot.binds (ps := ["_law_script", "_law_k"]) fun _ _ _ _ _ _ us hl => match us, hl with | [_, _], _ => rfl
  have bDrw : Binds K eDrw ["_law_pot_here", "_law_size"] [] := FDrw.binds (ps := ["_law_pot_here", "_law_size"]) fun _ _ _ _ _ _ us hl => match us, hl with | [_, _], _ => rfl
  have bPck : Binds K ePck ["_law_pot_here", "_law_some"] [] := FPck.binds (ps := ["_law_pot_here", "_law_some"]) fun _ _ _ _ _ _ us hl => match us, hl with | [_, _], _ => rfl
  have bLD : Binds K eLD ["_law_pot_here", "_law_length", "_law_first"] [] := FLD.binds (ps := ["_law_pot_here", "_law_length", "_law_first"]) fun _ _ _ _ _ _ us hl => match us, hl with | [_, _, _], _ => rfl
  have bLO : Binds K eLO ["_law_days_here", "_law_day"] [] := FLO.binds (ps := ["_law_days_here", "_law_day"]) fun _ _ _ _ _ _ us hl => match us, hl with | [_, _], _ => rfl
  have bEa : Binds K eEa ["_law_length", "_law_row", "_law_day"] [] := FEa.binds (ps := ["_law_length", "_law_row", "_law_day"]) fun _ _ _ _ _ _ us hl => match us, hl with | [_, _, _], _ => rfl
  have bLa : Binds K eLa ["_law_length", "_law_row", "_law_day"] [] := FLa.binds (ps := ["_law_length", "_law_row", "_law_day"]) fun _ _ _ _ _ _ us hl => match us, hl with | [_, _, _], _ => rfl
  have bKp : Binds K eKp ["_law_length", "_law_rows"] [] := FKp.binds (ps := ["_law_length", "_law_rows"]) fun _ _ _ _ _ _ us hl => match us, hl with | [_, _], _ => rfl
  have bTo : Binds K eTo ["_law_table"] [] := FTo.binds (ps := ["_law_table"]) fun _ _ _ _ _ _ us hl => match us, hl with | [_], _ => rfl
  have bDue : Binds K eDue ["_law_length", "_law_rows"] [] := FDue.binds (ps := ["_law_length", "_law_rows"]) fun _ _ _ _ _ _ us hl => match us, hl with | [_, _], _ => rfl
  have bPr : Binds K ePr ["_law_length", "_law_rows"] [] := FPr.binds (ps := ["_law_length", "_law_rows"]) fun _ _ _ _ _ _ us hl => match us, hl with | [_, _], _ => rfl
  have bRd : Binds K eRd ["_law_pot_here", "_law_days_here", "_law_many"] [] := FRd.binds (ps := ["_law_pot_here", "_law_days_here", "_law_many"]) fun _ _ _ _ _ _ us hl => match us, hl with | [_, _, _], _ => rfl
  have bBt : Binds K eBt ["_law_pot_here", "_law_early_here", "_law_late_here", "_law_length"] [] := FBt.binds (ps := ["_law_pot_here", "_law_early_here", "_law_late_here", "_law_length"]) fun _ _ _ _ _ _ us hl => match us, hl with | [_, _, _, _], _ => rfl
  have bHd : Binds K eHd ["_law_pot_here", "_law_days_here", "_law_rows"] [] := FHd.binds (ps := ["_law_pot_here", "_law_days_here", "_law_rows"]) fun _ _ _ _ _ _ us hl => match us, hl with | [_, _, _], _ => rfl
  have bEn : Binds K eEn ["_law_pot_here", "_law_days_here"] [] := FEn.binds (ps := ["_law_pot_here", "_law_days_here"]) fun _ _ _ _ _ _ us hl => match us, hl with | [_, _], _ => rfl
  have bRt : Binds K eRt ["_law_pot_here"] [] := FRt.binds (ps := ["_law_pot_here"]) fun _ _ _ _ _ _ us hl => match us, hl with | [_], _ => rfl
  have bIni : Binds K eIni ["self", "days"] [] := FIni.binds (ps := ["self", "days"]) fun _ _ _ _ _ _ us hl => match us, hl with | [_, _], _ => rfl
  have bDys : Binds K eDys ["self"] [] := FDys.binds (ps := ["self"]) fun _ _ _ _ _ _ us hl => match us, hl with | [_], _ => rfl
  have bOn : Binds K eOn ["self", "day"] [] := FOn.binds (ps := ["self", "day"]) fun _ _ _ _ _ _ us hl => match us, hl with | [_, _], _ => rfl
  have bSrv : Binds K eSrv ["self", "day"] [] := FSrv.binds (ps := ["self", "day"]) fun _ _ _ _ _ _ us hl => match us, hl with | [_, _], _ => rfl
  have bEq : Binds K eEq ["self", "other"] [] := FEq.binds (ps := ["self", "other"]) fun _ _ _ _ _ _ us hl => match us, hl with | [_, _], _ => rfl
  have bLen : Binds K eLen ["self"] [] := FLen.binds (ps := ["self"]) fun _ _ _ _ _ _ us hl => match us, hl with | [_], _ => rfl
  have zEW : KBinds K eEW ["count", "rows"] ["rows", "count"] swapU swapV := swap_binds FEW fun _ _ _ _ _ _ _ _ => rfl
  have zLW : KBinds K eLW ["count", "rows"] ["rows", "count"] swapU swapV := swap_binds FLW fun _ _ _ _ _ _ _ _ => rfl
  have e := hfa.symm.trans mLaw
  cases e
  have T : Txt K mg C := {
    cl := ⟨pg, hd, po, sa⟩, nD := nD, nL := nL, mgC := PySem.W.mg_of X G aC, most := ⟨t1, PySem.W.mg_of X G cMost⟩, mostR := ⟨t2, PySem.W.mg_of X G cRows⟩, lcm := PySem.W.mg_of X G cLcm
    isi := PySem.W.mg_none_of X G zisinstance, len := PySem.W.mg_none_of X G zlen, all := PySem.W.mg_none_of X G zall, range := PySem.W.mg_none_of X G zrange, list := PySem.W.mg_none_of X G zlist, sorted := PySem.W.mg_none_of X G zsorted, enum := PySem.W.mg_none_of X G zenumerate, max := PySem.W.mg_none_of X G zmax, min := PySem.W.mg_none_of X G zmin, abs := PySem.W.mg_none_of X G zabs, int := PySem.W.mg_none_of X G zint, divmod := PySem.W.mg_none_of X G zdivmod, repr := PySem.W.mg_none_of X G zrepr, tuple := PySem.W.mg_none_of X G ztuple, bool := PySem.W.mg_none_of X G zbool
    tyC := by unfold PySem.W.kitOne; rw [if_pos (by simp)]
    ha := ha, hn := hn, ht := ht, hm := hm, ne := ne }
  have MT : Mk K C fIni := ⟨mk, aIni.at_, aIni.fn, kc⟩
  have bL : ∀ (s : Shared) (v : Value), BindsTo s eLaw ⟨[v], []⟩ [("_law_script", v)] := by
    obtain ⟨oc, od, kV, doc, pm, an, cdv, ct, osl, rfl, _⟩ := FLaw.ex
    exact fun s v => .of_eq rfl
  refine ⟨eLaw, bL, fun base _ _ => ?_⟩
  have gInt := ok_integer (P := l.prog) (w := w) (base := base) FInt T
  have gLst := ok_list (P := l.prog) (w := w) (base := base) FLst T
  have gDay := ok_day (P := l.prog) (w := w) (base := base) FDay FInt bInt mInt T
  have gCnt := ok_count (P := l.prog) (w := w) (base := base) FCnt FInt bInt mInt T
  have gWD := ok_wantDay FWD gDay FDay.kp bDay mDay T
  have gWC := ok_wantCount FWC gCnt FCnt.kp bCnt mCnt T
  have gWM := ok_most (P := l.prog) (w := w) (mg := mg) (base := base) FWM
  have gFl := ok_floor (P := l.prog) (w := w) (mg := mg) (base := base) FFl
  have gTb := ok_table FTb gLst FLst.kp bLst mLst gDay FDay.kp bDay mDay T
  have gWL := ok_wantLen FWL gWC FWC.kp bWC mWC T
  have gIni := ok_init FIni gTb FTb.kp bTb mTb T
  have gLen := ok_length (P := l.prog) (w := w) (base := base) FLen T
  have gDys := ok_days (P := l.prog) (w := w) (base := base) FDys T
  have gSrv := ok_served FSrv gFl FFl.kp bFl mFl T
  have gOn := ok_on FOn gWD FWD.kp bWD mWD gSrv bSrv aSrv T
  have gEq := ok_eq (P := l.prog) (w := w) (base := base) FEq T
  have gCm := ok_common FCm gWM FWM.kp bWM mWM gLen bLen aLen T
  have gGp := ok_gaps FGp gCm FCm.kp bCm mCm gSrv bSrv aSrv T
  have gFa := ok_first FFa gGp FGp.kp bGp mGp T
  have gIR := ok_isRows FIR gLst FLst.kp bLst mLst gDay FDay.kp bDay mDay T
  have gBd := ok_brought FBd gFl FFl.kp bFl mFl T
  have gWR := ok_wanted FWR gWL FWL.kp bWL mWL gIR FIR.kp bIR mIR gWM FWM.kp bWM mWM gBd FBd.kp bBd mBd T
  have gEW := ok_earliest FEW gWR FWR.kp bWR mWR MT gIni bIni T
  have gLW := ok_latest FLW gWR FWR.kp bWR mWR MT gIni bIni T
  have gPot := ok_pot (P := l.prog) (w := w) (base := base) FPot T
  have gDrw := ok_draw (P := l.prog) (w := w) (base := base) FDrw T
  have gPck := ok_pick FPck gDrw FDrw.kp bDrw mDrw T
  have gLD := ok_lawDays FLD gPck FPck.kp bPck mPck T
  have gLO := ok_lawOn (P := l.prog) (w := w) (base := base) FLO T
  have gEa := ok_early (P := l.prog) (w := w) (mg := mg) (base := base) FEa
  have gLa := ok_late (P := l.prog) (w := w) (mg := mg) (base := base) FLa
  have gKp := ok_kept FKp gEa FEa.kp bEa mEa
  have gTo := ok_told FTo gDys bDys aDys T
  have gDue := ok_due FDue gKp FKp.kp bKp mKp gEa FEa.kp bEa mEa gLa FLa.kp bLa mLa T
  have gPr := ok_pair FPr gDue FDue.kp bDue mDue gTo FTo.kp bTo mTo gEW FEW.kp bEW zEW mEW gLW FLW.kp bLW zLW mLW T
  have gRd := ok_read FRd gPck FPck.kp bPck mPck gDrw FDrw.kp bDrw mDrw gLO FLO.kp bLO mLO T
  have gBt := ok_between FBt gDrw FDrw.kp bDrw mDrw T
  have gHd := ok_hidden FHd gEW FEW.kp bEW mEW gLW FLW.kp bLW mLW gOn bOn aOn MT gIni bIni gFa FFa.kp bFa mFa gDys bDys aDys gBt FBt.kp bBt mBt gLO FLO.kp bLO mLO gRd FRd.kp bRd mRd T
  have gEn := ok_ends FEn gEW FEW.kp bEW mEW gLW FLW.kp bLW mLW MT gIni bIni gEq bEq aEq.at_ aEq.fn gDrw FDrw.kp bDrw mDrw gLO FLO.kp bLO mLO gPr FPr.kp bPr mPr gRd FRd.kp bRd mRd T
  have gRt := ok_right FRt gPck FPck.kp bPck mPck gLD FLD.kp bLD mLD gRd FRd.kp bRd mRd gDrw FDrw.kp bDrw mDrw gPr FPr.kp bPr mPr gHd FHd.kp bHd mHd gEn FEn.kp bEn mEn T
  exact ok_law FLaw gPot FPot.kp bPot mPot gRt FRt.kp bRt mRt T
theorem walk {l : PySem.W.OpenLaw} {q : Program} {loose : List Str} {XP : (Str → Option Value) → Heap → Prop} {YP : World → Heap → Prop} {d : DefRec} {K : Params → PySem.W.Frag} (hn : l.most = some 63) (hdf : d.params.defaults = []) (hY : ∀ (w : World) (h : Heap), YP w h → (K w.params).In h)
    (F : ∀ (w : World) (mg : Str → Option Value) (fa : Addr) (h : Heap), (K w.params).In h → h.Ns mainGlobals mg → mg d.name = some (.ref fa) →
      ∃ fd : FuncData, (∀ (s : Shared) (u : Value), BindsTo s fd ⟨[u], []⟩ [("_law_script", u)]) ∧ ∀ base : Heap, (K w.params).In base → base.Ns mainGlobals mg → FnG l.prog w (K w.params) mg base 10 fa fd ["_law_script"] (spLaw (K w.params))) :
    PySem.W.WalkO q loose XP YP l.row.toRowW d [] (fun f vs => PySem.call f vs) :=
  walk_ofG (n := 63) (k := 10) (x := "_law_script") hn (by decide) hdf ⟨rfl, by decide, by decide⟩ hY F fun _ _ a ns _ hS => ⟨a, ns, rfl, hS, fun _ => rfl⟩
end K16
open PySem PySem.W PyProof.Rows in
set_option maxRecDepth 100000 in
set_option maxHeartbeats 0 in
theorem PySem.Challenge.cw_leadrules_k16_whole_rules_through_rows_holds : PySem.Challenge.rw_leadrules_k16_whole_rules_through_rows.Holds := by
  w_on; o_law; k_head; (case hw => w_witness2)
  k_fill
  refine K16.walk (l := PySem.Challenge.rw_leadrules_k16_whole_rules_through_rows) rfl rfl (fun w h Y => PySem.W.kIn_of Y) ?F
  case F =>
    intro w mg fa h KX G hmg
    refine' K16.all_mk KX G hmg ?aC ?dInt ?dLst ?dDay ?dCnt ?dWD ?dWC ?dWM ?dFl ?dTb ?dWL ?dCm ?dGp ?dFa ?dIR ?dBd ?dWR ?dEW ?dLW ?dPot ?dDrw ?dPck ?dLD ?dLO ?dEa ?dLa ?dKp ?dTo ?dDue ?dPr ?dRd ?dBt ?dHd ?dEn ?dRt ?dLaw ?dIni ?dDys ?dOn ?dSrv ?dEq ?dLen ?pg ?hd ?po ?sa ?mk ?kc ?nD ?nL ?cMost ?cRows ?cLcm ?ha ?hn ?ht ?hm ?ne ?zisinstance ?zlen ?zall ?zrange ?zlist ?zsorted ?zenumerate ?zmax ?zmin ?zabs ?zint ?zdivmod ?zrepr ?ztuple ?zbool
    (case aC => k_is)
    (case dInt => refine' K16.glo_mk ?a ?l ?c ?k; (case a => k_is); (case l => k_is); (case c => k_is); (case k => k_is))
    (case dLst => refine' K16.glo_mk ?a ?l ?c ?k; (case a => k_is); (case l => k_is); (case c => k_is); (case k => k_is))
    (case dDay => refine' K16.glo_mk ?a ?l ?c ?k; (case a => k_is); (case l => k_is); (case c => k_is); (case k => k_is))
    (case dCnt => refine' K16.glo_mk ?a ?l ?c ?k; (case a => k_is); (case l => k_is); (case c => k_is); (case k => k_is))
    (case dWD => refine' K16.glo_mk ?a ?l ?c ?k; (case a => k_is); (case l => k_is); (case c => k_is); (case k => k_is))
    (case dWC => refine' K16.glo_mk ?a ?l ?c ?k; (case a => k_is); (case l => k_is); (case c => k_is); (case k => k_is))
    (case dWM => refine' K16.glo_mk ?a ?l ?c ?k; (case a => k_is); (case l => k_is); (case c => k_is); (case k => k_is))
    (case dFl => refine' K16.glo_mk ?a ?l ?c ?k; (case a => k_is); (case l => k_is); (case c => k_is); (case k => k_is))
    (case dTb => refine' K16.glo_mk ?a ?l ?c ?k; (case a => k_is); (case l => k_is); (case c => k_is); (case k => k_is))
    (case dWL => refine' K16.glo_mk ?a ?l ?c ?k; (case a => k_is); (case l => k_is); (case c => k_is); (case k => k_is))
    (case dCm => refine' K16.glo_mk ?a ?l ?c ?k; (case a => k_is); (case l => k_is); (case c => k_is); (case k => k_is))
    (case dGp => refine' K16.glo_mk ?a ?l ?c ?k; (case a => k_is); (case l => k_is); (case c => k_is); (case k => k_is))
    (case dFa => refine' K16.glo_mk ?a ?l ?c ?k; (case a => k_is); (case l => k_is); (case c => k_is); (case k => k_is))
    (case dIR => refine' K16.glo_mk ?a ?l ?c ?k; (case a => k_is); (case l => k_is); (case c => k_is); (case k => k_is))
    (case dBd => refine' K16.glo_mk ?a ?l ?c ?k; (case a => k_is); (case l => k_is); (case c => k_is); (case k => k_is))
    (case dWR => refine' K16.glo_mk ?a ?l ?c ?k; (case a => k_is); (case l => k_is); (case c => k_is); (case k => k_is))
    (case dEW => refine' K16.glo_mk ?a ?l ?c ?k; (case a => k_is); (case l => k_is); (case c => k_is); (case k => k_is))
    (case dLW => refine' K16.glo_mk ?a ?l ?c ?k; (case a => k_is); (case l => k_is); (case c => k_is); (case k => k_is))
    (case dPot => refine' K16.glo_mk ?a ?l ?c ?k; (case a => k_is); (case l => k_is); (case c => k_is); (case k => k_is))
    (case dDrw => refine' K16.glo_mk ?a ?l ?c ?k; (case a => k_is); (case l => k_is); (case c => k_is); (case k => k_is))
    (case dPck => refine' K16.glo_mk ?a ?l ?c ?k; (case a => k_is); (case l => k_is); (case c => k_is); (case k => k_is))
    (case dLD => refine' K16.glo_mk ?a ?l ?c ?k; (case a => k_is); (case l => k_is); (case c => k_is); (case k => k_is))
    (case dLO => refine' K16.glo_mk ?a ?l ?c ?k; (case a => k_is); (case l => k_is); (case c => k_is); (case k => k_is))
    (case dEa => refine' K16.glo_mk ?a ?l ?c ?k; (case a => k_is); (case l => k_is); (case c => k_is); (case k => k_is))
    (case dLa => refine' K16.glo_mk ?a ?l ?c ?k; (case a => k_is); (case l => k_is); (case c => k_is); (case k => k_is))
    (case dKp => refine' K16.glo_mk ?a ?l ?c ?k; (case a => k_is); (case l => k_is); (case c => k_is); (case k => k_is))
    (case dTo => refine' K16.glo_mk ?a ?l ?c ?k; (case a => k_is); (case l => k_is); (case c => k_is); (case k => k_is))
    (case dDue => refine' K16.glo_mk ?a ?l ?c ?k; (case a => k_is); (case l => k_is); (case c => k_is); (case k => k_is))
    (case dPr => refine' K16.glo_mk ?a ?l ?c ?k; (case a => k_is); (case l => k_is); (case c => k_is); (case k => k_is))
    (case dRd => refine' K16.glo_mk ?a ?l ?c ?k; (case a => k_is); (case l => k_is); (case c => k_is); (case k => k_is))
    (case dBt => refine' K16.glo_mk ?a ?l ?c ?k; (case a => k_is); (case l => k_is); (case c => k_is); (case k => k_is))
    (case dHd => refine' K16.glo_mk ?a ?l ?c ?k; (case a => k_is); (case l => k_is); (case c => k_is); (case k => k_is))
    (case dEn => refine' K16.glo_mk ?a ?l ?c ?k; (case a => k_is); (case l => k_is); (case c => k_is); (case k => k_is))
    (case dRt => refine' K16.glo_mk ?a ?l ?c ?k; (case a => k_is); (case l => k_is); (case c => k_is); (case k => k_is))
    (case dLaw => refine' K16.glo_mk ?a ?l ?c ?k; (case a => k_is); (case l => k_is); (case c => k_is); (case k => k_is))
    (case dIni => refine' K16.met_mk ?a ?i ?l ?c ?k; (case a => k_is); (case i => k_is); (case l => k_is); (case c => k_is); (case k => k_is))
    (case dDys => refine' K16.met_mk ?a ?i ?l ?c ?k; (case a => k_is); (case i => k_is); (case l => k_is); (case c => k_is); (case k => k_is))
    (case dOn => refine' K16.met_mk ?a ?i ?l ?c ?k; (case a => k_is); (case i => k_is); (case l => k_is); (case c => k_is); (case k => k_is))
    (case dSrv => refine' K16.met_mk ?a ?i ?l ?c ?k; (case a => k_is); (case i => k_is); (case l => k_is); (case c => k_is); (case k => k_is))
    (case dEq => refine' K16.met_mk ?a ?i ?l ?c ?k; (case a => k_is); (case i => k_is); (case l => k_is); (case c => k_is); (case k => k_is))
    (case dLen => refine' K16.prp_mk ?a ?g ?t ?r ?l ?c ?k; (case a => k_is); (case g => k_is); (case t => k_is); (case r => k_is); (case l => k_is); (case c => k_is); (case k => k_is))
    (case pg => k_is)
    (case hd => k_is)
    (case po => k_is)
    (case sa => k_is)
    (case mk => k_is)
    (case kc => k_is)
    (case nD => k_is)
    (case nL => k_is)
    (case cMost => k_is)
    (case cRows => k_is)
    (case cLcm => k_is)
    (case ha => k_is)
    (case hn => k_is)
    (case ht => k_is)
    (case hm => k_is)
    (case ne => k_is)
    (case zisinstance => k_is)
    (case zlen => k_is)
    (case zall => k_is)
    (case zrange => k_is)
    (case zlist => k_is)
    (case zsorted => k_is)
    (case zenumerate => k_is)
    (case zmax => k_is)
    (case zmin => k_is)
    (case zabs => k_is)
    (case zint => k_is)
    (case zdivmod => k_is)
    (case zrepr => k_is)
    (case ztuple => k_is)
    (case zbool => k_is)
