import PyProof.Rows.All
import Wide.All
import OpenK.AllK
import Wide.FinOn
import HandS.ForMost
import HandS.Wide
import HandS.Star
import HandS.DictComp
import HandS.Walk
import HandS.IsInst
import HandS.Flow
import HandS.ListItems
import KE.KDictList
import KE.KDictZip
import HandS.TupAny
import HandS.Small
import KE.GoesZip
import KE.GoesMore
import HandS.TupMul
import KE.RegKIsAll
import PySem.Challenge.RW_lowersteps_k36_whole_rows_parted_or_canc
set_option Elab.async false
set_option linter.all false
section
namespace Sx
/-! sums over the first n numbers -/
def sm : Nat → (Nat → Int) → Int
  | 0, _ => 0
  | n + 1, f => sm n f + f n
theorem sm_congr {f g : Nat → Int} : ∀ {n : Nat}, (∀ i, i < n → f i = g i) → sm n f = sm n g
  | 0, _ => rfl
  | n + 1, h => by
    show sm n f + f n = sm n g + g n
    rw [sm_congr (n := n) fun i hi => h i (Nat.lt_succ_of_lt hi), h n (Nat.lt_succ_self n)]
theorem sm_add {f g : Nat → Int} : ∀ {n : Nat}, sm n (fun i => f i + g i) = sm n f + sm n g
  | 0 => rfl
  | n + 1 => by
    show sm n (fun i => f i + g i) + (f n + g n) = (sm n f + f n) + (sm n g + g n)
    rw [sm_add]; omega
theorem sm_mul {f : Nat → Int} {a : Int} : ∀ {n : Nat}, sm n (fun i => a * f i) = a * sm n f
  | 0 => by simp [sm]
  | n + 1 => by
    show sm n (fun i => a * f i) + a * f n = a * (sm n f + f n)
    rw [sm_mul]; grind
theorem sm_zero {f : Nat → Int} : ∀ {n : Nat}, (∀ i, i < n → f i = 0) → sm n f = 0
  | 0, _ => rfl
  | n + 1, h => by
    show sm n f + f n = 0
    rw [sm_zero (n := n) fun i hi => h i (Nat.lt_succ_of_lt hi), h n (Nat.lt_succ_self n)]; rfl
theorem sm_one {f : Nat → Int} {k : Nat} : ∀ {n : Nat}, k < n → (∀ i, i < n → i ≠ k → f i = 0) → sm n f = f k
  | 0, h, _ => absurd h (Nat.not_lt_zero _)
  | n + 1, hk, h => by
    show sm n f + f n = f k
    by_cases e : k = n
    · subst e
      rw [sm_zero fun i hi => h i (Nat.lt_succ_of_lt hi) (Nat.ne_of_lt hi)]; omega
    · rw [sm_one (n := n) (by omega) fun i hi ne => h i (Nat.lt_succ_of_lt hi) ne, h n (Nat.lt_succ_self n) (fun q => e q.symm)]; omega
theorem sm_two {f : Nat → Int} {k l : Nat} (hne : k ≠ l) : ∀ {n : Nat}, k < n → l < n → (∀ i, i < n → i ≠ k → i ≠ l → f i = 0) → sm n f = f k + f l
  | 0, h, _, _ => absurd h (Nat.not_lt_zero _)
  | n + 1, hk, hl, h => by
    show sm n f + f n = f k + f l
    by_cases e : k = n
    · subst e
      rw [sm_one (k := l) (n := k) (by omega) fun i hi ne => h i (by omega) (by omega) ne]; omega
    · by_cases e2 : l = n
      · subst e2
        rw [sm_one (k := k) (n := l) (by omega) fun i hi ne => h i (by omega) ne (by omega)]
      · rw [sm_two hne (n := n) (by omega) (by omega) fun i hi a b => h i (by omega) a b, h n (by omega) (by omega) (by omega)]; omega
theorem sm_nonneg {f : Nat → Int} : ∀ {n : Nat}, (∀ i, i < n → 0 ≤ f i) → 0 ≤ sm n f
  | 0, _ => Int.le_refl 0
  | n + 1, h => by
    show 0 ≤ sm n f + f n
    have := sm_nonneg (n := n) fun i hi => h i (Nat.lt_succ_of_lt hi)
    have := h n (Nat.lt_succ_self n)
    omega
theorem sm_le {f g : Nat → Int} : ∀ {n : Nat}, (∀ i, i < n → f i ≤ g i) → sm n f ≤ sm n g
  | 0, _ => Int.le_refl 0
  | n + 1, h => by
    show sm n f + f n ≤ sm n g + g n
    have := sm_le (n := n) fun i hi => h i (Nat.lt_succ_of_lt hi)
    have := h n (Nat.lt_succ_self n)
    omega
/-- a sum of what is never below 0 that is 0 has only zeros -/
theorem sm_all_zero {f : Nat → Int} : ∀ {n : Nat}, (∀ i, i < n → 0 ≤ f i) → sm n f = 0 → ∀ i, i < n → f i = 0
  | 0, _, _, i, hi => absurd hi (Nat.not_lt_zero _)
  | n + 1, h, e, i, hi => by
    have e' : sm n f + f n = 0 := e
    have a := sm_nonneg (n := n) fun i hi => h i (Nat.lt_succ_of_lt hi)
    have b := h n (Nat.lt_succ_self n)
    by_cases q : i = n
    · subst q; omega
    · exact sm_all_zero (n := n) (fun i hi => h i (Nat.lt_succ_of_lt hi)) (by omega) i (by omega)
theorem sm_pos {f : Nat → Int} : ∀ {n : Nat}, 0 < sm n f → ∃ i, i < n ∧ 0 < f i
  | 0, h => absurd h (by simp [sm])
  | n + 1, h => by
    have h' : 0 < sm n f + f n := h
    by_cases q : 0 < f n
    · exact ⟨n, Nat.lt_succ_self n, q⟩
    · obtain ⟨i, hi, p⟩ := sm_pos (n := n) (f := f) (by omega)
      exact ⟨i, by omega, p⟩
theorem sm_swap {f : Nat → Nat → Int} : ∀ {n m : Nat}, sm n (fun i => sm m (fun j => f i j)) = sm m (fun j => sm n (fun i => f i j))
  | 0, m => (sm_zero fun _ _ => rfl).symm
  | n + 1, m => by
    show sm n (fun i => sm m (fun j => f i j)) + sm m (fun j => f n j) = sm m (fun j => sm n (fun i => f i j) + f n j)
    rw [sm_swap, sm_add]

/-! the determinant of d columns, by the last place -/
def skip (j k : Nat) : Nat := if k < j then k else k + 1
def sg : Nat → Int
  | 0 => 1
  | n + 1 => - sg n
theorem sg_sq : ∀ n, sg n * sg n = 1
  | 0 => rfl
  | n + 1 => by show -sg n * -sg n = 1; have := sg_sq n; grind
abbrev Col := Nat → Int
def det : Nat → (Nat → Col) → Int
  | 0, _ => 1
  | d + 1, C => sm (d + 1) fun j => sg d * sg j * C j d * det d (fun k => C (skip j k))
def rep (C : Nat → Col) (i : Nat) (u : Col) : Nat → Col := fun k => if k = i then u else C k
theorem rep_same {C : Nat → Col} {i : Nat} {u : Col} : rep C i u i = u := by simp [rep]
theorem rep_ne {C : Nat → Col} {i k : Nat} {u : Col} (h : k ≠ i) : rep C i u k = C k := by simp [rep, h]
theorem rep_rep {C : Nat → Col} {i : Nat} {u v : Col} : rep (rep C i u) i v = rep C i v := by
  funext k; by_cases h : k = i <;> simp [rep, h]
theorem rep_self {C : Nat → Col} {i : Nat} : rep C i (C i) = C := by
  funext k; by_cases h : k = i <;> simp [rep, h]
theorem rep_comm {C : Nat → Col} {i j : Nat} {u v : Col} (h : i ≠ j) : rep (rep C i u) j v = rep (rep C j v) i u := by
  funext k
  by_cases h1 : k = j
  · subst h1
    have h2 : k ≠ i := fun q => h q.symm
    simp [rep, h2]
  · by_cases h2 : k = i
    · subst h2; simp [rep, h1]
    · simp [rep, h1, h2]
theorem det_congr : ∀ {d : Nat} {C B : Nat → Col}, (∀ k, k < d → ∀ l, l < d → C k l = B k l) → det d C = det d B
  | 0, _, _, _ => rfl
  | d + 1, C, B, h => sm_congr fun j hj => by
    rw [h j hj d (Nat.lt_succ_self d), det_congr (d := d) fun k hk l hl => h (skip j k) (by unfold skip; split <;> omega) l (by omega)]
/-- columns ahead of the one that is replaced, in a minor -/
theorem skip_rep {C : Nat → Col} {i j : Nat} {u : Col} (h : j ≠ i) : (fun k => rep C i u (skip j k)) = rep (fun k => C (skip j k)) (if i < j then i else i - 1) u := by
  funext k
  show (if skip j k = i then u else C (skip j k)) = (if k = (if i < j then i else i - 1) then u else C (skip j k))
  by_cases q : skip j k = i
  · have : k = (if i < j then i else i - 1) := by revert q; unfold skip; split <;> split <;> omega
    rw [if_pos q, if_pos this]
  · have : ¬ k = (if i < j then i else i - 1) := by revert q; unfold skip; split <;> split <;> omega
    rw [if_neg q, if_neg this]
theorem skip_rep_same {C : Nat → Col} {i : Nat} {u : Col} : (fun k => rep C i u (skip i k)) = fun k => C (skip i k) := by
  funext k
  unfold rep skip
  split <;> split <;> first | rfl | (exfalso; omega)
theorem det_lin {u v : Col} {a b : Int} : ∀ {d : Nat} {C : Nat → Col} {i : Nat}, i < d → det d (rep C i (fun k => a * u k + b * v k)) = a * det d (rep C i u) + b * det d (rep C i v)
  | 0, _, _, h => absurd h (Nat.not_lt_zero _)
  | d + 1, C, i, hi => by
    show sm (d + 1) _ = a * sm (d + 1) _ + b * sm (d + 1) _
    rw [← sm_mul, ← sm_mul, ← sm_add]
    refine sm_congr fun j hj => ?_
    by_cases e : j = i
    · subst e
      rw [skip_rep_same, skip_rep_same, skip_rep_same, rep_same, rep_same, rep_same]
      grind
    · rw [skip_rep e, skip_rep e, skip_rep e, rep_ne e, rep_ne e, rep_ne e, det_lin (d := d) (i := if i < j then i else i - 1) (by split <;> omega)]
      grind
theorem det_scale {u : Col} {a : Int} {d : Nat} {C : Nat → Col} {i : Nat} (h : i < d) : det d (rep C i (fun k => a * u k)) = a * det d (rep C i u) := by
  have := det_lin (u := u) (v := u) (a := a) (b := 0) (C := C) h
  rw [show (fun k => a * u k + 0 * u k) = fun k => a * u k by funext k; omega] at this
  omega
theorem det_nil {d : Nat} {C : Nat → Col} {i : Nat} (h : i < d) : det d (rep C i (fun _ => 0)) = 0 := by
  have := det_scale (u := fun _ => 0) (a := 0) (C := C) h
  rw [show (fun k => (0 : Int) * (fun _ : Nat => (0 : Int)) k) = fun _ => 0 by funext k; simp] at this
  omega
theorem det_sum {d : Nat} {C : Nat → Col} {i : Nat} (h : i < d) {a : Nat → Int} {u : Nat → Col} : ∀ {n : Nat}, det d (rep C i (fun k => sm n (fun l => a l * u l k))) = sm n (fun l => a l * det d (rep C i (u l)))
  | 0 => det_nil h
  | n + 1 => by
    have e := det_lin (u := fun k => sm n (fun l => a l * u l k)) (v := u n) (a := 1) (b := a n) (C := C) h
    rw [show (fun k => sm (n + 1) (fun l => a l * u l k)) = fun k => 1 * sm n (fun l => a l * u l k) + a n * u n k by
      funext k; show sm n (fun l => a l * u l k) + a n * u n k = _; omega]
    rw [e, det_sum h (n := n)]
    show _ = sm n (fun l => a l * det d (rep C i (u l))) + a n * det d (rep C i (u n))
    omega
/-- two neighbours that are alike -/
theorem det_next : ∀ {d : Nat} {C : Nat → Col} {i : Nat}, i + 1 < d → C i = C (i + 1) → det d C = 0
  | 0, _, _, h, _ => absurd h (Nat.not_lt_zero _)
  | d + 1, C, i, h, e => by
    have z : ∀ j, j < d + 1 → j ≠ i → j ≠ i + 1 → sg d * sg j * C j d * det d (fun k => C (skip j k)) = 0 := fun j hj a b => by
      have : det d (fun k => C (skip j k)) = 0 := by
        by_cases q : j < i
        · refine det_next (i := i - 1) (by omega) ?_
          show C (skip j (i - 1)) = C (skip j (i - 1 + 1))
          have e1 : skip j (i - 1) = i := by unfold skip; split <;> omega
          have e2 : skip j (i - 1 + 1) = i + 1 := by unfold skip; split <;> omega
          rw [e1, e2, e]
        · refine det_next (i := i) (by omega) ?_
          show C (skip j i) = C (skip j (i + 1))
          have e1 : skip j i = i := by unfold skip; split <;> omega
          have e2 : skip j (i + 1) = i + 1 := by unfold skip; split <;> omega
          rw [e1, e2, e]
      rw [this]; simp
    show sm (d + 1) _ = 0
    rw [sm_two (k := i) (l := i + 1) (by omega) (by omega) (by omega) z]
    have e3 : (fun k => C (skip i k)) = fun k => C (skip (i + 1) k) := by
      funext k
      by_cases q : k = i
      · subst q
        have e1 : skip k k = k + 1 := by unfold skip; split <;> omega
        have e2 : skip (k + 1) k = k := by unfold skip; split <;> omega
        rw [e1, e2, e]
      · have : skip i k = skip (i + 1) k := by unfold skip; split <;> split <;> omega
        rw [this]
    rw [e3, e]
    show sg d * sg i * C (i + 1) d * _ + sg d * (- sg i) * C (i + 1) d * _ = 0
    grind
def swp (C : Nat → Col) (i : Nat) : Nat → Col := rep (rep C i (C (i + 1))) (i + 1) (C i)
theorem det_swp {d : Nat} {C : Nat → Col} {i : Nat} (h : i + 1 < d) : det d (swp C i) = - det d C := by
  have l1 : ∀ B : Nat → Col, ∀ j, j < d → ∀ u v : Col, det d (rep B j (fun k => u k + v k)) = det d (rep B j u) + det d (rep B j v) := fun B j hj u v => by
    have := det_lin (u := u) (v := v) (a := 1) (b := 1) (C := B) hj
    rw [show (fun k => 1 * u k + 1 * v k) = fun k => u k + v k by funext k; omega] at this
    omega
  let x := C i
  let y := C (i + 1)
  have ne : i ≠ i + 1 := by omega
  have both : ∀ u : Col, det d (rep (rep C i u) (i + 1) u) = 0 := fun u => det_next (i := i) h (by rw [rep_ne ne, rep_same, rep_same])
  have e := both (fun k => x k + y k)
  rw [l1 _ _ h, rep_comm ne, l1 _ _ (by omega), rep_comm ne.symm, rep_comm (C := C) (i := i) (j := i + 1) (u := fun k => x k + y k) (v := y) ne, l1 _ _ (by omega)] at e
  have e1 := both x
  have e2 := both y
  rw [← rep_comm ne] at e
  have e3 : rep (rep C (i + 1) y) i y = rep (rep C i y) (i + 1) y := (rep_comm ne).symm
  have e4 : rep (rep C (i + 1) y) i x = C := by
    rw [show rep C (i + 1) y = C from rep_self]; exact rep_self
  rw [e3, e4] at e
  have e5 : rep (rep C i y) (i + 1) x = swp C i := rfl
  rw [← e5]
  have e6 : rep (rep C (i + 1) x) i y = rep (rep C i y) (i + 1) x := (rep_comm ne).symm
  first | omega | (rw [e6] at e; omega)
/-- two columns that are alike -/
theorem det_alike {d : Nat} : ∀ {n : Nat} {C : Nat → Col} {i j : Nat}, j - i = n + 1 → j < d → C i = C j → det d C = 0
  | 0, C, i, j, h, hj, e => det_next (i := i) (by omega) (by rw [e, show j = i + 1 by omega])
  | n + 1, C, i, j, h, hj, e => by
    have hs := det_swp (d := d) (C := C) (i := j - 1) (by omega)
    have : det d (swp C (j - 1)) = 0 := by
      refine det_alike (n := n) (i := i) (j := j - 1) (by omega) (by omega) ?_
      unfold swp
      rw [show j - 1 + 1 = j by omega, rep_ne (show i ≠ j by omega), rep_ne (show i ≠ j - 1 by omega), rep_ne (show j - 1 ≠ j by omega), rep_same, e]
    omega
theorem det_two {d : Nat} {C : Nat → Col} {i j : Nat} (hi : i < d) (hj : j < d) (ne : i ≠ j) (e : C i = C j) : det d C = 0 := by
  by_cases h : i < j
  · exact det_alike (n := j - i - 1) (by omega) hj e
  · exact det_alike (n := i - j - 1) (by omega) hi e.symm
def unit (k : Nat) : Col := fun l => if l = k then 1 else 0
theorem det_unit : ∀ {d : Nat}, det d unit = 1
  | 0 => rfl
  | d + 1 => by
    show sm (d + 1) _ = 1
    rw [sm_one (k := d) (by omega) fun j hj ne => by
      have : unit j d = 0 := by unfold unit; rw [if_neg (fun q => ne q.symm)]
      rw [this]; simp]
    have e1 : unit d d = 1 := by unfold unit; rw [if_pos rfl]
    have e2 : det d (fun k => unit (skip d k)) = 1 := by
      rw [← det_unit (d := d)]
      refine det_congr fun k hk l hl => ?_
      have : skip d k = k := by unfold skip; rw [if_pos hk]
      rw [this]
    rw [e1, e2, sg_sq]
    rfl
end Sx
end
section
namespace Sx
/-- the problem: m rows, n columns of the data, behind them m unit columns, behind them the right side (column n + m); each column has m + 1 places, the last one what lacks -/
structure Prob where
  m : Nat
  n : Nat
  t : Nat → Col
  hm : 0 < m
  un : ∀ k, k < m → ∀ l, l < m + 1 → t (n + k) l = unit k l
  wt : ∀ j, j < n → sm (m + 1) (t j) = 0
  rt : ∀ l, l < m + 1 → t (n + m) l = if l = m - 1 then 1 else if l = m then -1 else 0
structure Tab where
  T : Nat → Nat → Int
  c : Nat → Nat
  D : Int
namespace Prob
variable (P : Prob)
def B (c : Nat → Nat) : Nat → Col := fun i => if i < P.m then P.t (c i) else unit P.m
structure Inv (S : Tab) : Prop where
  pos : 0 < S.D
  dt : S.D = det (P.m + 1) (P.B S.c)
  cr : ∀ j, j < P.n + P.m + 1 → ∀ k, k < P.m + 1 → S.D * P.t j k = sm (P.m + 1) (fun i => S.T i j * P.B S.c i k)
  cl : ∀ i, i < P.m → S.c i < P.n + P.m
  rh : ∀ i, i < P.m → 0 ≤ S.T i (P.n + P.m)
variable {P} {S : Tab}
theorem B_lt {c : Nat → Nat} {i : Nat} (h : i < P.m) : P.B c i = P.t (c i) := by unfold B; rw [if_pos h]
theorem B_m {c : Nat → Nat} : P.B c P.m = unit P.m := by unfold B; rw [if_neg (Nat.lt_irrefl _)]
theorem mul_cancel {a b c : Int} (h : a ≠ 0) (e : a * b = a * c) : b = c := Int.eq_of_mul_eq_mul_left h e
theorem Inv.cramer (I : P.Inv S) {i j : Nat} (hi : i < P.m + 1) (hj : j < P.n + P.m + 1) : S.T i j = det (P.m + 1) (rep (P.B S.c) i (P.t j)) := by
  have e1 := det_scale (u := P.t j) (a := S.D) (C := P.B S.c) hi
  have e2 : det (P.m + 1) (rep (P.B S.c) i (fun k => S.D * P.t j k)) = det (P.m + 1) (rep (P.B S.c) i (fun k => sm (P.m + 1) (fun l => S.T l j * P.B S.c l k))) := by
    refine det_congr fun k hk l hl => ?_
    by_cases q : k = i
    · subst q; rw [rep_same, rep_same]; exact I.cr j hj l hl
    · rw [rep_ne q, rep_ne q]
  rw [det_sum hi, sm_one (k := i) hi fun l hl ne => by
    rw [det_two hi hl (fun q => ne q.symm) (by rw [rep_same, rep_ne ne])]; simp] at e2
  rw [rep_self, ← I.dt] at e2
  refine mul_cancel (Int.ne_of_gt I.pos) ?_
  rw [← e1, e2, Int.mul_comm]
/-- the row in terms of what it has in the unit columns -/
theorem Inv.row (I : P.Inv S) {i j : Nat} (hi : i < P.m + 1) (hj : j < P.n + P.m + 1) : S.T i j = sm P.m (fun k => P.t j k * S.T i (P.n + k)) + P.t j P.m * (if i = P.m then S.D else 0) := by
  rw [I.cramer hi hj]
  have e : det (P.m + 1) (rep (P.B S.c) i (P.t j)) = det (P.m + 1) (rep (P.B S.c) i (fun k => sm (P.m + 1) (fun l => P.t j l * unit l k))) := by
    refine det_congr fun k hk l hl => ?_
    by_cases q : k = i
    · subst q; rw [rep_same, rep_same, sm_one (k := l) hl fun a _ ne => by unfold unit; rw [if_neg (fun q => ne q.symm)]; simp]
      unfold unit; rw [if_pos rfl]; simp
    · rw [rep_ne q, rep_ne q]
  rw [e, det_sum hi]
  show sm P.m _ + _ = _
  dsimp only
  have e3 : det (P.m + 1) (rep (P.B S.c) i (unit P.m)) = if i = P.m then S.D else 0 := by
    by_cases q : i = P.m
    · subst q
      rw [if_pos rfl, ← B_m (P := P) (c := S.c), rep_self, ← I.dt]
    · rw [if_neg q]
      exact det_two hi (Nat.lt_succ_self P.m) q (by rw [rep_same, rep_ne (fun z => q z.symm), B_m])
  rw [e3]
  congr 1
  refine sm_congr fun k hk => ?_
  rw [I.cramer hi (j := P.n + k) (by omega)]
  congr 1
  refine det_congr fun a ha l hl => ?_
  by_cases q : a = i
  · subst q; rw [rep_same, rep_same, P.un k hk l hl]
  · rw [rep_ne q, rep_ne q]
theorem Inv.basic (I : P.Inv S) {i k : Nat} (hi : i < P.m + 1) (hk : k < P.m) : S.T i (S.c k) = if i = k then S.D else 0 := by
  rw [I.cramer hi (by have := I.cl k hk; omega), ← B_lt (P := P) (c := S.c) hk]
  by_cases q : i = k
  · subst q; rw [if_pos rfl, rep_self, ← I.dt]
  · rw [if_neg q]
    exact det_two hi (j := k) (by omega) q (by rw [rep_same, rep_ne (fun z => q z.symm)])
theorem Inv.inj (I : P.Inv S) {i k : Nat} (hi : i < P.m) (hk : k < P.m) (e : S.c i = S.c k) : i = k := by
  have h1 := I.basic (i := i) (k := k) (by omega) hk
  have h2 := I.basic (i := i) (k := i) (by omega) hi
  rw [if_pos rfl, e] at h2
  by_cases q : i = k
  · exact q
  · rw [if_neg q] at h1
    have := I.pos
    omega
/-- two states of one base are alike -/
theorem Inv.same {S' : Tab} (I : P.Inv S) (I' : P.Inv S') (e : ∀ i, i < P.m → S.c i = S'.c i) : S.D = S'.D ∧ ∀ i, i < P.m + 1 → ∀ j, j < P.n + P.m + 1 → S.T i j = S'.T i j := by
  have eB : P.B S.c = P.B S'.c := by
    funext i
    unfold B
    split
    · rename_i h; rw [e i h]
    · rfl
  exact ⟨by rw [I.dt, I'.dt, eB], fun i hi j hj => by rw [I.cramer hi hj, I'.cramer hi hj, eB]⟩
/-- the sum of a column's places -/
theorem Inv.weigh (I : P.Inv S) {j : Nat} (hj : j < P.n + P.m + 1) : S.D * sm (P.m + 1) (P.t j) = sm P.m (fun i => S.T i j * (if S.c i < P.n then 0 else 1)) + S.T P.m j := by
  rw [← sm_mul, sm_congr fun k hk => I.cr j hj k hk, sm_swap]
  show sm P.m _ + _ = _
  dsimp only
  have e1 : sm (P.m + 1) (fun k => S.T P.m j * P.B S.c P.m k) = S.T P.m j := by
    rw [B_m, sm_one (k := P.m) (Nat.lt_succ_self _) fun l _ ne => by unfold unit; rw [if_neg ne]; simp]
    unfold unit; rw [if_pos rfl]; simp
  rw [e1]
  congr 1
  refine sm_congr fun i hi => ?_
  rw [sm_mul, B_lt hi]
  congr 1
  by_cases q : S.c i < P.n
  · rw [if_pos q]; exact P.wt _ q
  · rw [if_neg q]
    have hc := I.cl i hi
    have : sm (P.m + 1) (P.t (S.c i)) = sm (P.m + 1) (unit (S.c i - P.n)) := sm_congr fun l hl => by
      have := P.un (S.c i - P.n) (by omega) l hl
      rw [show P.n + (S.c i - P.n) = S.c i by omega] at this
      exact this
    rw [this, sm_one (k := S.c i - P.n) (by omega) fun l _ ne => by unfold unit; rw [if_neg ne]]
    unfold unit; rw [if_pos rfl]
theorem rt_sum : sm (P.m + 1) (P.t (P.n + P.m)) = 0 := by
  have hm := P.hm
  rw [sm_two (k := P.m - 1) (l := P.m) (by omega) (by omega) (by omega) fun l hl a b => by rw [P.rt l hl, if_neg a, if_neg b]]
  rw [P.rt _ (by omega), P.rt _ (by omega), if_pos rfl, if_neg (by omega), if_pos rfl]
  rfl
/-- a column whose lack is below 0 has a row above 0 -/
theorem Inv.some (I : P.Inv S) {s : Nat} (hs : s < P.n) (h : S.T P.m s < 0) : ∃ i, i < P.m ∧ 0 < S.T i s := by
  have e := I.weigh (j := s) (by omega)
  rw [P.wt s hs] at e
  obtain ⟨i, hi, p⟩ := sm_pos (n := P.m) (f := fun i => S.T i s * (if S.c i < P.n then 0 else 1)) (by omega)
  refine ⟨i, hi, ?_⟩
  have p' : 0 < S.T i s * (if S.c i < P.n then 0 else 1) := p
  split at p' <;> omega
theorem Inv.lack_le (I : P.Inv S) : S.T P.m (P.n + P.m) ≤ 0 := by
  have e := I.weigh (j := P.n + P.m) (by omega)
  rw [rt_sum] at e
  have : 0 ≤ sm P.m (fun i => S.T i (P.n + P.m) * (if S.c i < P.n then 0 else 1)) := sm_nonneg fun i hi => by
    have := I.rh i hi
    split <;> omega
  omega
theorem Inv.art_zero (I : P.Inv S) (h : S.T P.m (P.n + P.m) = 0) {i : Nat} (hi : i < P.m) (hc : ¬ S.c i < P.n) : S.T i (P.n + P.m) = 0 := by
  have e := I.weigh (j := P.n + P.m) (by omega)
  rw [rt_sum, h] at e
  have := sm_all_zero (n := P.m) (f := fun i => S.T i (P.n + P.m) * (if S.c i < P.n then 0 else 1)) (fun i hi => by
    have := I.rh i hi
    show 0 ≤ S.T i (P.n + P.m) * (if S.c i < P.n then 0 else 1)
    split <;> omega) (by omega) i hi
  rw [if_neg hc] at this
  omega

/-! one step -/
def piv (S : Tab) (r s : Nat) : Tab where
  T := fun i j => if i = r then S.T r j else (S.T i j * S.T r s - S.T i s * S.T r j) / S.D
  c := fun i => if i = r then s else S.c i
  D := S.T r s
/-- how the row is chosen -/
structure Leave (P : Prob) (S : Tab) (r s : Nat) : Prop where
  lt : r < P.m
  pos : 0 < S.T r s
  le : ∀ i, i < P.m → 0 < S.T i s → S.T r (P.n + P.m) * S.T i s < S.T i (P.n + P.m) * S.T r s ∨ (S.T r (P.n + P.m) * S.T i s = S.T i (P.n + P.m) * S.T r s ∧ S.c r ≤ S.c i)
variable {r s : Nat}
theorem Inv.exact (I : P.Inv S) (L : Leave P S r s) (hs : s < P.n) {i j : Nat} (hi : i < P.m + 1) (hj : j < P.n + P.m + 1) (ne : i ≠ r) :
    S.D * (piv S r s).T i j = S.T i j * S.T r s - S.T i s * S.T r j ∧ det (P.m + 1) (P.B (piv S r s).c) = S.T r s ∧
    ∀ k, k < P.m + 1 → S.T r s * S.D * P.t j k = sm (P.m + 1) (fun l => (if l = r then S.D * S.T r j else S.T l j * S.T r s - S.T l s * S.T r j) * P.B (piv S r s).c l k) := by
  have hr := L.lt
  have hp : S.T r s ≠ 0 := Int.ne_of_gt L.pos
  have hD : S.D ≠ 0 := Int.ne_of_gt I.pos
  have eB : P.B (piv S r s).c = rep (P.B S.c) r (P.t s) := by
    funext l
    by_cases q : l = r
    · subst q; rw [rep_same, B_lt hr]; show P.t (if l = l then s else S.c l) = P.t s; rw [if_pos rfl]
    · rw [rep_ne q]; unfold B; split
      · show P.t (if l = r then s else S.c l) = P.t (S.c l); rw [if_neg q]
      · rfl
  have dB : det (P.m + 1) (P.B (piv S r s).c) = S.T r s := by rw [eB, ← I.cramer (by omega) (by omega)]
  have rel : ∀ k, k < P.m + 1 → S.T r s * S.D * P.t j k = sm (P.m + 1) (fun l => (if l = r then S.D * S.T r j else S.T l j * S.T r s - S.T l s * S.T r j) * P.B (piv S r s).c l k) := fun k hk => by
    have h1 := I.cr j hj k hk
    have h2 := I.cr s (by omega) k hk
    have e1 : S.T r s * S.D * P.t j k = sm (P.m + 1) (fun l => (S.T l j * S.T r s - S.T l s * S.T r j) * P.B S.c l k) + S.T r j * (S.D * P.t s k) := by
      rw [h2, ← sm_mul, ← sm_add, Int.mul_assoc, h1, ← sm_mul]
      exact sm_congr fun l _ => by grind
    have e2 : sm (P.m + 1) (fun l => (if l = r then S.D * S.T r j else S.T l j * S.T r s - S.T l s * S.T r j) * P.B (piv S r s).c l k)
        = sm (P.m + 1) (fun l => (S.T l j * S.T r s - S.T l s * S.T r j) * P.B S.c l k) + sm (P.m + 1) (fun l => if l = r then S.T r j * (S.D * P.t s k) else 0) := by
      rw [← sm_add]
      refine sm_congr fun l _ => ?_
      rw [eB]
      by_cases q : l = r
      · subst q; rw [if_pos rfl, if_pos rfl, rep_same]; grind
      · rw [if_neg q, if_neg q, rep_ne q]; omega
    rw [e1, e2, sm_one (k := r) (n := P.m + 1) (f := fun l => if l = r then S.T r j * (S.D * P.t s k) else 0) (by omega) fun l _ q => if_neg q, if_pos rfl]
  refine ⟨?_, dB, rel⟩
  have e1 := det_scale (u := P.t j) (a := S.T r s * S.D) (C := P.B (piv S r s).c) hi
  have e2 : det (P.m + 1) (rep (P.B (piv S r s).c) i (fun k => S.T r s * S.D * P.t j k)) = det (P.m + 1) (rep (P.B (piv S r s).c) i (fun k => sm (P.m + 1) (fun l => (if l = r then S.D * S.T r j else S.T l j * S.T r s - S.T l s * S.T r j) * P.B (piv S r s).c l k))) := by
    refine det_congr fun k hk l hl => ?_
    by_cases q : k = i
    · subst q; rw [rep_same, rep_same]; exact rel l hl
    · rw [rep_ne q, rep_ne q]
  rw [det_sum hi, sm_one (k := i) hi fun l hl ne => by
    rw [det_two hi hl (fun q => ne q.symm) (by rw [rep_same, rep_ne ne])]; simp] at e2
  rw [rep_self, dB, if_neg ne] at e2
  have e3 : S.D * det (P.m + 1) (rep (P.B (piv S r s).c) i (P.t j)) = S.T i j * S.T r s - S.T i s * S.T r j := by
    refine mul_cancel hp ?_
    rw [← Int.mul_assoc, ← e1, e2, Int.mul_comm]
  show S.D * (if i = r then S.T r j else (S.T i j * S.T r s - S.T i s * S.T r j) / S.D) = _
  rw [if_neg ne, ← e3, Int.mul_ediv_cancel_left _ hD]
theorem Inv.piv (I : P.Inv S) (L : Leave P S r s) (hs : s < P.n) : P.Inv (piv S r s) := by
  have hr := L.lt
  have hD : S.D ≠ 0 := Int.ne_of_gt I.pos
  have hm := P.hm
  refine ⟨L.pos, ?_, fun j hj k hk => ?_, fun i hi => ?_, fun i hi => ?_⟩
  · exact ((I.exact L hs (i := P.m) (j := 0) (by omega) (by omega) (by omega)).2.1).symm
  · have h := (I.exact L hs (i := P.m) (j := j) (by omega) hj (by omega)).2.2 k hk
    refine mul_cancel hD ?_
    rw [← sm_mul]
    show S.D * (S.T r s * P.t j k) = _
    rw [show S.D * (S.T r s * P.t j k) = S.T r s * S.D * P.t j k by grind, h]
    refine sm_congr fun l hl => ?_
    by_cases q : l = r
    · subst q
      rw [if_pos rfl]
      show _ = S.D * ((if l = l then S.T l j else _) * _)
      rw [if_pos rfl]; grind
    · rw [if_neg q, ← (I.exact L hs (i := l) (j := j) hl hj q).1]; grind
  · show (if i = r then s else S.c i) < _
    have := I.cl i hi
    split <;> omega
  · by_cases q : i = r
    · subst q
      show 0 ≤ (if i = i then S.T i (P.n + P.m) else _)
      rw [if_pos rfl]
      exact I.rh i hi
    · have e := (I.exact L hs (i := i) (j := P.n + P.m) (by omega) (by omega) q).1
      have hp := I.pos
      have h0 : 0 ≤ S.T i (P.n + P.m) * S.T r s - S.T i s * S.T r (P.n + P.m) := by
        by_cases z : 0 < S.T i s
        · have h2 := Int.mul_comm (S.T i s) (S.T r (P.n + P.m))
          rcases L.le i hi z with h | ⟨h, _⟩ <;> omega
        · have h1 : 0 ≤ S.T i (P.n + P.m) * S.T r s := Int.mul_nonneg (I.rh i hi) (Int.le_of_lt L.pos)
          have h2 : S.T i s * S.T r (P.n + P.m) ≤ 0 := Int.mul_nonpos_of_nonpos_of_nonneg (by omega) (I.rh r hr)
          omega
      rw [← e] at h0
      exact Int.nonneg_of_mul_nonneg_right h0 hp
end Prob
end Sx
end
section
namespace Sx
theorem php : ∀ (B : Nat) (f : Nat → Nat), (∀ k, k ≤ B → f k < B) → ∃ i j, i < j ∧ j ≤ B ∧ f i = f j
  | 0, f, h => absurd (h 0 (Nat.le_refl 0)) (Nat.not_lt_zero _)
  | B + 1, f, h => by
    by_cases q : ∃ i, i ≤ B ∧ f i = f (B + 1)
    · obtain ⟨i, hi, e⟩ := q
      exact ⟨i, B + 1, by omega, Nat.le_refl _, e⟩
    · have q' : ∀ i, i ≤ B → f i ≠ f (B + 1) := fun i hi e => q ⟨i, hi, e⟩
      obtain ⟨i, j, hij, hj, e⟩ := php B (fun k => if f k = B then f (B + 1) else f k) fun k hk => by
        have h1 := h k (by omega)
        have h2 := h (B + 1) (by omega)
        have h3 := q' k hk
        show (if f k = B then f (B + 1) else f k) < B
        split <;> omega
      have e' : (if f i = B then f (B + 1) else f i) = (if f j = B then f (B + 1) else f j) := e
      have h1 := q' i (by omega)
      have h2 := q' j hj
      refine ⟨i, j, hij, by omega, ?_⟩
      split at e' <;> split at e' <;> omega
def enc (b : Nat) : Nat → (Nat → Nat) → Nat
  | 0, _ => 0
  | m + 1, c => enc b m c * b + c m
theorem enc_lt {b : Nat} : ∀ {m : Nat} {c : Nat → Nat}, (∀ i, i < m → c i < b) → enc b m c < b ^ m
  | 0, _, _ => by simp [enc]
  | m + 1, c, h => by
    have ih := enc_lt (m := m) (c := c) fun i hi => h i (by omega)
    have h1 := h m (by omega)
    show enc b m c * b + c m < b ^ (m + 1)
    rw [Nat.pow_succ]
    calc enc b m c * b + c m < enc b m c * b + b := by omega
      _ = (enc b m c + 1) * b := by rw [Nat.add_mul]; omega
      _ ≤ b ^ m * b := Nat.mul_le_mul_right b ih
theorem enc_inj {b : Nat} : ∀ {m : Nat} {c d : Nat → Nat}, (∀ i, i < m → c i < b) → (∀ i, i < m → d i < b) → enc b m c = enc b m d → ∀ i, i < m → c i = d i
  | 0, _, _, _, _, _, i, hi => absurd hi (Nat.not_lt_zero _)
  | m + 1, c, d, hc, hd, e, i, hi => by
    have e' : enc b m c * b + c m = enc b m d * b + d m := e
    have h1 := hc m (by omega)
    have h2 := hd m (by omega)
    have e1 : c m = d m := by
      have a := congrArg (· % b) e'
      simp only [Nat.mul_add_mod_of_lt h1, Nat.mul_add_mod_of_lt h2] at a
      exact a
    have e2 : enc b m c = enc b m d := by
      have : enc b m c * b = enc b m d * b := by omega
      exact Nat.eq_of_mul_eq_mul_right (by omega) this
    by_cases q : i = m
    · subst q; exact e1
    · exact enc_inj (fun i hi => hc i (by omega)) (fun i hi => hd i (by omega)) e2 i (by omega)
theorem max_of {A : Nat → Prop} : ∀ (B : Nat), (∃ v, v < B ∧ A v) → (∀ v, A v → v < B) → ∃ q, A q ∧ ∀ v, A v → v ≤ q
  | 0, ⟨v, hv, _⟩, _ => absurd hv (Nat.not_lt_zero _)
  | B + 1, h, hb => by
    by_cases q : A B
    · exact ⟨B, q, fun v hv => by have := hb v hv; omega⟩
    · obtain ⟨v, hv, av⟩ := h
      refine max_of B ⟨v, ?_, av⟩ fun u hu => ?_
      · by_cases e : v = B
        · exact absurd (e ▸ av) q
        · omega
      · by_cases e : u = B
        · exact absurd (e ▸ hu) q
        · have := hb u hu; omega
namespace Prob
variable {P : Prob}
structure Enter (P : Prob) (S : Tab) (s : Nat) : Prop where
  lt : s < P.n
  neg : S.T P.m s < 0
  first : ∀ j, j < s → 0 ≤ S.T P.m j
structure Run (P : Prob) (S : Nat → Tab) (r s : Nat → Nat) : Prop where
  I : ∀ k, P.Inv (S k)
  E : ∀ k, Enter P (S k) (s k)
  L : ∀ k, Leave P (S k) (r k) (s k)
  N : ∀ k i, i < P.m → (S (k + 1)).c i = (piv (S k) (r k) (s k)).c i
variable {S : Nat → Tab} {r s : Nat → Nat}
theorem Run.T (R : Run P S r s) (k : Nat) : (S (k + 1)).D = (S k).T (r k) (s k) ∧ ∀ i, i < P.m + 1 → ∀ j, j < P.n + P.m + 1 → (S (k + 1)).T i j = (piv (S k) (r k) (s k)).T i j :=
  (R.I (k + 1)).same ((R.I k).piv (R.L k) (R.E k).lt) (R.N k)
/-- from one base the run goes on alike -/
theorem Run.det (R : Run P S r s) {a b : Nat} (e : ∀ i, i < P.m → (S a).c i = (S b).c i) : s a = s b ∧ r a = r b ∧ ∀ i, i < P.m → (S (a + 1)).c i = (S (b + 1)).c i := by
  obtain ⟨eD, eT⟩ := (R.I a).same (R.I b) e
  have es : s a = s b := by
    have h1 := R.E a
    have h2 := R.E b
    have l1 := h1.lt
    have l2 := h2.lt
    rcases Nat.lt_trichotomy (s a) (s b) with h | h | h
    · have := h2.first _ h
      have := h1.neg
      rw [eT _ (by omega) _ (by omega)] at this
      omega
    · exact h
    · have := h1.first _ h
      have := h2.neg
      rw [← eT _ (by omega) _ (by omega)] at this
      omega
  have er : r a = r b := by
    have h1 := R.L a
    have h2 := R.L b
    have l1 := h1.lt
    have l2 := h2.lt
    have l3 := (R.E a).lt
    refine (R.I a).inj l1 l2 ?_
    have p2 : 0 < (S a).T (r b) (s a) := by rw [eT _ (by omega) _ (by omega), es]; exact h2.pos
    have p1 : 0 < (S b).T (r a) (s b) := by rw [← eT _ (by omega) _ (by omega), ← es]; exact h1.pos
    have a1 := h1.le (r b) l2 p2
    have a2 := h2.le (r a) l1 p1
    rw [← eT _ (by omega) _ (by omega), ← eT _ (by omega) _ (by omega), ← eT _ (by omega) _ (by omega), ← eT _ (by omega) _ (by omega), ← es, ← e _ l1, ← e _ l2] at a2
    omega
  refine ⟨es, er, fun i hi => ?_⟩
  rw [R.N a i hi, R.N b i hi]
  show (if i = r a then s a else (S a).c i) = (if i = r b then s b else (S b).c i)
  rw [es, er, e i hi]
theorem Run.round (R : Run P S r s) : ∃ a p, 0 < p ∧ ∀ k, a ≤ k → ∀ i, i < P.m → (S (k + p)).c i = (S k).c i := by
  have hc : ∀ k i, i < P.m → (S k).c i < P.n + P.m := fun k i hi => (R.I k).cl i hi
  obtain ⟨a, b, hab, _, e⟩ := php ((P.n + P.m) ^ P.m) (fun k => enc (P.n + P.m) P.m (S k).c) fun k _ => enc_lt (hc k)
  refine ⟨a, b - a, by omega, fun k hk => ?_⟩
  have : ∀ d, ∀ i, i < P.m → (S (b + d)).c i = (S (a + d)).c i := by
    intro d
    induction d with
    | zero => intro i hi; exact (enc_inj (hc a) (hc b) e i hi).symm
    | succ d ih => exact (R.det ih).2.2
  intro i hi
  have h := this (k - a) i hi
  rw [show b + (k - a) = k + (b - a) by omega, show a + (k - a) = k by omega] at h
  exact h
/-- what lacks never gets more; and it is the same exactly if the right side of the row is 0 -/
theorem Run.lack (R : Run P S r s) (k : Nat) : (S k).T P.m (P.n + P.m) * (S (k + 1)).D ≤ (S (k + 1)).T P.m (P.n + P.m) * (S k).D ∧
    ((S k).T (r k) (P.n + P.m) ≠ 0 → (S k).T P.m (P.n + P.m) * (S (k + 1)).D < (S (k + 1)).T P.m (P.n + P.m) * (S k).D) := by
  obtain ⟨eD, eT⟩ := R.T k
  have hL := R.L k
  have hE := R.E k
  have hlt := hL.lt
  have hs := hE.lt
  have e := ((R.I k).exact hL hE.lt (i := P.m) (j := P.n + P.m) (by omega) (by omega) (by omega)).1
  rw [eD, eT _ (by omega) _ (by omega), Int.mul_comm ((piv (S k) (r k) (s k)).T P.m (P.n + P.m)), e]
  have h0 := (R.I k).rh (r k) hL.lt
  have h1 : (S k).T P.m (s k) * (S k).T (r k) (P.n + P.m) ≤ 0 := Int.mul_nonpos_of_nonpos_of_nonneg (Int.le_of_lt hE.neg) h0
  refine ⟨by omega, fun ne => ?_⟩
  have h2 : (S k).T P.m (s k) * (S k).T (r k) (P.n + P.m) < 0 := Int.mul_neg_of_neg_of_pos hE.neg (by omega)
  omega
theorem frac_le {a b c x y z : Int} (hx : 0 < x) (hy : 0 < y) (hz : 0 < z) (h1 : a * y ≤ b * x) (h2 : b * z ≤ c * y) : a * z ≤ c * x := by
  have e1 : a * y * z ≤ b * x * z := Int.mul_le_mul_of_nonneg_right h1 (Int.le_of_lt hz)
  have e2 : b * z * x ≤ c * y * x := Int.mul_le_mul_of_nonneg_right h2 (Int.le_of_lt hx)
  have e3 : y * (a * z) ≤ y * (c * x) := by
    rw [show y * (a * z) = a * y * z by grind, show y * (c * x) = c * y * x by grind]
    have : b * x * z = b * z * x := by grind
    omega
  exact Int.le_of_mul_le_mul_left e3 hy
theorem Run.lacks (R : Run P S r s) {i j : Nat} (h : i ≤ j) : (S i).T P.m (P.n + P.m) * (S j).D ≤ (S j).T P.m (P.n + P.m) * (S i).D := by
  obtain ⟨d, rfl⟩ := Nat.le.dest h
  clear h
  induction d with
  | zero => exact Int.le_refl _
  | succ d ih => exact frac_le (R.I i).pos (R.I (i + d)).pos (R.I (i + d + 1)).pos ih (R.lack (i + d)).1
theorem no_run (R : Run P S r s) : False := by
  obtain ⟨a, p, hp, per⟩ := R.round
  have m0 := P.hm
  have sameT : ∀ k, a ≤ k → (S (k + p)).D = (S k).D ∧ ∀ i, i < P.m + 1 → ∀ j, j < P.n + P.m + 1 → (S (k + p)).T i j = (S k).T i j := fun k hk => (R.I (k + p)).same (R.I k) (per k hk)
  have flat : ∀ k, a ≤ k → (S k).T (r k) (P.n + P.m) = 0 := fun k hk => by
    refine Decidable.byContradiction fun ne => ?_
    have h1 := (R.lack k).2 ne
    have h2 := R.lacks (i := k + 1) (j := k + p) (by omega)
    obtain ⟨eD, eT⟩ := sameT k hk
    rw [eD, eT _ (by omega) _ (by omega)] at h2
    have h3 : (S (k + 1)).T P.m (P.n + P.m) * (S k).D ≤ (S k).T P.m (P.n + P.m) * (S (k + 1)).D := h2
    omega
  have stay : ∀ k, a ≤ k → ∀ i, i < P.m → 0 < (S k).T i (P.n + P.m) → ∀ d, (S (k + d)).c i = (S k).c i ∧ 0 < (S (k + d)).T i (P.n + P.m) := fun k hk i hi h d => by
    induction d with
    | zero => exact ⟨rfl, h⟩
    | succ d ih =>
      obtain ⟨e, h'⟩ := ih
      have hf := flat (k + d) (by omega)
      have ne : i ≠ r (k + d) := fun q => by rw [q, hf] at h'; omega
      have hL := R.L (k + d)
      have hs := (R.E (k + d)).lt
      constructor
      · show (S (k + d + 1)).c i = _
        rw [R.N (k + d) i hi, ← e]
        show (if i = r (k + d) then _ else _) = _
        rw [if_neg ne]
      · show 0 < (S (k + d + 1)).T i _
        have e2 := ((R.I (k + d)).exact hL hs (i := i) (j := P.n + P.m) (by omega) (by omega) ne).1
        rw [(R.T (k + d)).2 i (by omega) _ (by omega)]
        rw [hf, Int.mul_zero, Int.sub_zero] at e2
        have h3 : 0 < (S (k + d)).T i (P.n + P.m) * (S (k + d)).T (r (k + d)) (s (k + d)) := Int.mul_pos h' hL.pos
        rw [← e2] at h3
        exact Int.pos_of_mul_pos_right h3 (R.I (k + d)).pos
  obtain ⟨q, ⟨t1, ht1, eq1⟩, qmax⟩ := max_of (A := fun v => ∃ k, a ≤ k ∧ (S k).c (r k) = v) (P.n + P.m) ⟨_, (R.I a).cl _ (R.L a).lt, a, Nat.le_refl a, rfl⟩ fun v ⟨k, _, e⟩ => e ▸ (R.I k).cl _ (R.L k).lt
  have left : ∀ v k, a ≤ k → ∀ d, (∃ i, i < P.m ∧ (S k).c i = v) → (¬ ∃ i, i < P.m ∧ (S (k + d)).c i = v) → v ≤ q := fun v k hk d h1 h2 => by
    induction d with
    | zero => exact absurd h1 h2
    | succ d ih =>
      by_cases z : ∃ i, i < P.m ∧ (S (k + d)).c i = v
      · obtain ⟨i, hi, e⟩ := z
        refine qmax v ⟨k + d, by omega, ?_⟩
        by_cases y : i = r (k + d)
        · rw [← y]; exact e
        · refine absurd ⟨i, hi, ?_⟩ h2
          show (S (k + d + 1)).c i = v
          rw [R.N (k + d) i hi, ← e]
          show (if i = r (k + d) then _ else _) = _
          rw [if_neg y]
      · exact ih z
  have hr1 := (R.L t1).lt
  have hs1 := (R.E t1).lt
  have again : ∀ d, (¬ ∃ i, i < P.m ∧ (S (t1 + 1)).c i = q) → (∃ i, i < P.m ∧ (S (t1 + 1 + d)).c i = q) → ∃ k, a ≤ k ∧ s k = q ∧ t1 < k := fun d h1 h2 => by
    induction d with
    | zero => exact absurd h2 h1
    | succ d ih =>
      by_cases z : ∃ i, i < P.m ∧ (S (t1 + 1 + d)).c i = q
      · exact ih z
      · obtain ⟨i, hi, e⟩ := h2
        have e' : (S (t1 + 1 + d + 1)).c i = q := e
        rw [R.N _ i hi] at e'
        have e2 : (if i = r (t1 + 1 + d) then s (t1 + 1 + d) else (S (t1 + 1 + d)).c i) = q := e'
        by_cases y : i = r (t1 + 1 + d)
        · rw [if_pos y] at e2
          exact ⟨t1 + 1 + d, by omega, e2, by omega⟩
        · rw [if_neg y] at e2
          exact absurd ⟨i, hi, e2⟩ z
  have sne : s t1 ≠ q := fun z => by
    have h1 := (R.I t1).basic (i := P.m) (k := r t1) (by omega) hr1
    rw [eq1, if_neg (by omega), ← z] at h1
    have := (R.E t1).neg
    omega
  have out : ¬ ∃ i, i < P.m ∧ (S (t1 + 1)).c i = q := fun ⟨i, hi, e⟩ => by
    rw [R.N t1 i hi] at e
    have e2 : (if i = r t1 then s t1 else (S t1).c i) = q := e
    by_cases y : i = r t1
    · rw [if_pos y] at e2; exact sne e2
    · rw [if_neg y] at e2
      exact y ((R.I t1).inj hi hr1 (e2.trans eq1.symm))
  obtain ⟨t2, ht2, eq2, h12⟩ := again (p - 1) out ⟨r t1, hr1, by rw [show t1 + 1 + (p - 1) = t1 + p by omega, per t1 ht1 _ hr1]; exact eq1⟩
  have hs2 := (R.E t2).lt
  have slt : s t1 < q := by
    have : s t1 ≤ q := by
      refine left (s t1) (t1 + 1) (by omega) (p - 1) ⟨r t1, hr1, ?_⟩ ?_
      · rw [R.N t1 _ hr1]
        show (if r t1 = r t1 then s t1 else _) = _
        rw [if_pos rfl]
      · rw [show t1 + 1 + (p - 1) = t1 + p by omega]
        rintro ⟨i, hi, e⟩
        rw [per t1 ht1 i hi] at e
        have h1 := (R.I t1).basic (i := P.m) (k := i) (by omega) hi
        rw [e, if_neg (by omega)] at h1
        have := (R.E t1).neg
        omega
    omega
  have I1 := R.I t1
  have I2 := R.I t2
  have key : (S t1).D * (S t2).T P.m (s t1) = sm P.m (fun i => (S t1).T i (s t1) * (S t2).T P.m ((S t1).c i)) + (S t2).D * (S t1).T P.m (s t1) := by
    have hrow : ∀ j, j < P.n + P.m + 1 → (S t2).T P.m j = sm (P.m + 1) (fun k => P.t j k * (if k < P.m then (S t2).T P.m (P.n + k) else (S t2).D)) := fun j hj => by
      rw [I2.row (by omega) hj, if_pos rfl]
      show _ = sm P.m _ + _
      dsimp only
      rw [if_neg (Nat.lt_irrefl _)]
      congr 1
      exact sm_congr fun k hk => by rw [if_pos hk]
    rw [hrow (s t1) (by omega), ← sm_mul]
    rw [sm_congr (g := fun k => sm (P.m + 1) (fun i => (S t1).T i (s t1) * P.B (S t1).c i k * (if k < P.m then (S t2).T P.m (P.n + k) else (S t2).D))) fun k hk => by
      rw [← Int.mul_assoc, I1.cr (s t1) (by omega) k hk, Int.mul_comm, ← sm_mul]
      exact sm_congr fun i _ => by grind]
    rw [sm_swap]
    show sm P.m _ + _ = _
    dsimp only
    congr 1
    · refine sm_congr fun i hi => ?_
      rw [hrow _ (by have := I1.cl i hi; omega), ← sm_mul]
      exact sm_congr fun k _ => by rw [B_lt hi]; grind
    · rw [B_m, sm_one (k := P.m) (by omega) fun k _ ne => by unfold unit; rw [if_neg ne]; simp, if_neg (Nat.lt_irrefl _)]
      unfold unit
      rw [if_pos rfl]; grind
  have h0 : 0 ≤ (S t2).T P.m (s t1) := (R.E t2).first _ (by omega)
  have h1 : 0 ≤ (S t1).D * (S t2).T P.m (s t1) := Int.mul_nonneg (Int.le_of_lt I1.pos) h0
  have h2 : (S t2).D * (S t1).T P.m (s t1) < 0 := Int.mul_neg_of_pos_of_neg I2.pos (R.E t1).neg
  obtain ⟨i, hi, hpos⟩ := sm_pos (n := P.m) (f := fun i => (S t1).T i (s t1) * (S t2).T P.m ((S t1).c i)) (by omega)
  have hpos : 0 < (S t1).T i (s t1) * (S t2).T P.m ((S t1).c i) := hpos
  have nz : (S t2).T P.m ((S t1).c i) ≠ 0 := fun z => by rw [z, Int.mul_zero] at hpos; omega
  have nb : ¬ ∃ l, l < P.m ∧ (S t2).c l = (S t1).c i := fun ⟨l, hl, e⟩ => by
    have := I2.basic (i := P.m) (k := l) (by omega) hl
    rw [e, if_neg (by omega)] at this
    exact nz this
  have cle : (S t1).c i ≤ q := left _ t1 ht1 (t2 - t1) ⟨i, hi, rfl⟩ (by rw [show t1 + (t2 - t1) = t2 by omega]; exact nb)
  have hl1 := R.L t1
  have cne : (S t1).c i ≠ q := fun z => by
    have ei : i = r t1 := I1.inj hi hr1 (z.trans eq1.symm)
    have hneg := (R.E t2).neg
    rw [eq2, ← z] at hneg
    have h3 := hl1.pos
    rw [← ei] at h3
    have := Int.mul_neg_of_pos_of_neg h3 hneg
    omega
  have hge : 0 ≤ (S t2).T P.m ((S t1).c i) := (R.E t2).first _ (by omega)
  have tpos : 0 < (S t1).T i (s t1) := Int.pos_of_mul_pos_left hpos (by omega)
  have rz : (S t1).T i (P.n + P.m) = 0 := by
    have := I1.rh i hi
    refine Decidable.byContradiction fun ne => ?_
    have h := (stay t1 ht1 i hi (by omega) (t2 - t1)).1
    rw [show t1 + (t2 - t1) = t2 by omega] at h
    exact nb ⟨i, hi, h⟩
  have fl := flat t1 ht1
  have := hl1.le i hi tpos
  rw [fl, rz, Int.zero_mul, Int.zero_mul, eq1] at this
  omega
end Prob
end Sx
end
section
namespace Sx
namespace Prob
variable {P : Prob}
/-- one state behind another one -/
structure Step (P : Prob) (S S' : Tab) : Prop where
  I : P.Inv S'
  h : ∃ r s, Enter P S s ∧ Leave P S r s ∧ ∀ i, i < P.m → S'.c i = (piv S r s).c i
/-- no more than so many steps are left -/
def Fin (P : Prob) : Nat → Tab → Prop
  | 0, S => ¬ ∃ s, Enter P S s
  | n + 1, S => ∀ S', Step P S S' → Fin P n S'
theorem Step.next {S S1 S2 : Tab} (I : P.Inv S) (a : Step P S S1) (b : Step P S S2) : ∀ i, i < P.m → S1.c i = S2.c i := by
  obtain ⟨r1, s1, E1, L1, c1⟩ := a.h
  obtain ⟨r2, s2, E2, L2, c2⟩ := b.h
  have es : s1 = s2 := by
    rcases Nat.lt_trichotomy s1 s2 with h | h | h
    · have := E2.first _ h; have := E1.neg; omega
    · exact h
    · have := E1.first _ h; have := E2.neg; omega
  subst es
  have er : r1 = r2 := by
    refine I.inj L1.lt L2.lt ?_
    have a1 := L1.le r2 L2.lt L2.pos
    have a2 := L2.le r1 L1.lt L1.pos
    omega
  subst er
  intro i hi
  rw [c1 i hi, c2 i hi]
/-- states of one base have the same steps -/
theorem Step.alike {S R S' : Tab} (I : P.Inv S) (J : P.Inv R) (e : ∀ i, i < P.m → S.c i = R.c i) (a : Step P S S') : Step P R S' := by
  obtain ⟨eD, eT⟩ := I.same J e
  obtain ⟨r, s, E, L, c⟩ := a.h
  have hm := P.hm
  have hs := E.lt
  have hr := L.lt
  refine ⟨a.I, r, s, ⟨hs, by rw [← eT _ (by omega) _ (by omega)]; exact E.neg, fun j hj => by rw [← eT _ (by omega) _ (by omega)]; exact E.first j hj⟩,
    ⟨hr, by rw [← eT _ (by omega) _ (by omega)]; exact L.pos, fun i hi h => ?_⟩, fun i hi => ?_⟩
  · rw [← eT i (by omega) s (by omega)] at h
    rw [← eT i (by omega) s (by omega), ← eT i (by omega) (P.n + P.m) (by omega), ← eT r (by omega) s (by omega), ← eT r (by omega) (P.n + P.m) (by omega), ← e i hi, ← e r hr]
    exact L.le i hi h
  · rw [c i hi]
    show (if i = r then s else S.c i) = (if i = r then s else R.c i)
    rw [e i hi]
theorem Fin.alike {S R : Tab} (I : P.Inv S) (J : P.Inv R) (e : ∀ i, i < P.m → S.c i = R.c i) : ∀ {n : Nat}, Fin P n S → Fin P n R
  | 0, h => fun ⟨s, E⟩ => by
    obtain ⟨eD, eT⟩ := I.same J e
    have hs := E.lt
    exact h ⟨s, hs, by rw [eT _ (by omega) _ (by omega)]; exact E.neg, fun j hj => by rw [eT _ (by omega) _ (by omega)]; exact E.first j hj⟩
  | n + 1, h => fun S' a => h S' (Step.alike J I (fun i hi => (e i hi).symm) a)
theorem long_next {S : Tab} (I : P.Inv S) (h : ∀ n, ¬ Fin P n S) : ∃ S', Step P S S' ∧ ∀ n, ¬ Fin P n S' := by
  have one : ∀ n, ∃ S', Step P S S' ∧ ¬ Fin P n S' := fun n => by
    have h1 : ¬ ∀ S', Step P S S' → Fin P n S' := h (n + 1)
    obtain ⟨S', h2⟩ := Classical.not_forall.mp h1
    exact ⟨S', Classical.not_imp.mp h2⟩
  obtain ⟨S', a, _⟩ := one 0
  refine ⟨S', a, fun n hn => ?_⟩
  obtain ⟨S2, b, h2⟩ := one n
  exact h2 (Fin.alike a.I b.I (Step.next I a b) hn)
/-- FROM EVERY STATE IT ENDS -/
theorem Inv.fin {S : Tab} (I : P.Inv S) : ∃ n, Fin P n S := by
  refine Classical.byContradiction fun h => ?_
  have h0 : ∀ n, ¬ Fin P n S := fun n hn => h ⟨n, hn⟩
  let X := { S : Tab // P.Inv S ∧ ∀ n, ¬ Fin P n S }
  have nx : ∀ x : X, ∃ y : X, Step P x.1 y.1 := fun x => by
    obtain ⟨S', a, b⟩ := long_next x.2.1 x.2.2
    exact ⟨⟨S', a.I, b⟩, a⟩
  let next : X → X := fun x => Classical.choose (nx x)
  have hnext : ∀ x : X, Step P x.1 (next x).1 := fun x => Classical.choose_spec (nx x)
  let seq : Nat → X := fun k => Nat.rec ⟨S, I, h0⟩ (fun _ x => next x) k
  have hseq : ∀ k, Step P (seq k).1 (seq (k + 1)).1 := fun k => hnext (seq k)
  let rr : Nat → Nat := fun k => Classical.choose (hseq k).h
  have hr : ∀ k, ∃ s, Enter P (seq k).1 s ∧ Leave P (seq k).1 (rr k) s ∧ ∀ i, i < P.m → (seq (k + 1)).1.c i = (Prob.piv (seq k).1 (rr k) s).c i := fun k => Classical.choose_spec (hseq k).h
  let ss : Nat → Nat := fun k => Classical.choose (hr k)
  have hs : ∀ k, Enter P (seq k).1 (ss k) ∧ Leave P (seq k).1 (rr k) (ss k) ∧ ∀ i, i < P.m → (seq (k + 1)).1.c i = (Prob.piv (seq k).1 (rr k) (ss k)).c i := fun k => Classical.choose_spec (hr k)
  exact no_run (P := P) (S := fun k => (seq k).1) (r := rr) (s := ss) ⟨fun k => (seq k).2.1, fun k => (hs k).1, fun k => (hs k).2.1, fun k => (hs k).2.2⟩

/-! the beginning -/
def begin (P : Prob) : Tab := ⟨fun i j => P.t j i, fun i => P.n + i, 1⟩
theorem begin_inv : P.Inv (begin P) := by
  have hm := P.hm
  have eB : ∀ k, k < P.m + 1 → ∀ l, l < P.m + 1 → P.B (begin P).c k l = unit k l := fun k hk l hl => by
    by_cases q : k < P.m
    · rw [B_lt q]; exact P.un k q l hl
    · have : k = P.m := by omega
      subst this; rw [B_m]
  refine ⟨(by decide : (0 : Int) < 1), ?_, fun j hj k hk => ?_, fun i hi => ?_, fun i hi => ?_⟩
  · rw [det_congr eB, det_unit]; rfl
  · show 1 * P.t j k = sm (P.m + 1) (fun i => P.t j i * P.B (begin P).c i k)
    rw [sm_congr (g := fun i => P.t j i * unit i k) fun i hi => by rw [eB i hi k hk], sm_one (k := k) hk fun i _ ne => by unfold unit; rw [if_neg (fun q => ne q.symm)]; simp]
    unfold unit; rw [if_pos rfl]; omega
  · show P.n + i < P.n + P.m; omega
  · show 0 ≤ P.t (P.n + P.m) i
    rw [P.rt i (by omega)]
    split
    · decide
    · split
      · omega
      · decide

/-! what is told at the end -/
variable {S : Tab}
theorem not_enter (h : ¬ ∃ s, Enter P S s) : ∀ j, j < P.n → 0 ≤ S.T P.m j := fun j => by
  induction j using Nat.strongRecOn with
  | ind j ih =>
    intro hj
    refine Decidable.byContradiction fun q => h ⟨j, hj, by omega, fun k hk => ih k hk (by omega)⟩
/-- the multipliers of the rows -/
def dual (P : Prob) (S : Tab) (k : Nat) : Int := S.D - S.T P.m (P.n + k)
theorem Inv.lack_dual (I : P.Inv S) {j : Nat} (hj : j < P.n) : S.T P.m j = - sm P.m (fun k => P.t j k * dual P S k) := by
  have e := I.row (i := P.m) (j := j) (by omega) (by omega)
  rw [if_pos rfl] at e
  have w : sm P.m (P.t j) + P.t j P.m = 0 := P.wt j hj
  have e2 : sm P.m (fun k => P.t j k * dual P S k) + sm P.m (fun k => P.t j k * S.T P.m (P.n + k)) = S.D * sm P.m (P.t j) := by
    rw [← sm_add, ← sm_mul]
    exact sm_congr fun k _ => by unfold dual; grind
  have e3 : P.t j P.m = - sm P.m (P.t j) := by omega
  rw [e3] at e
  have : -sm P.m (P.t j) * S.D = - (S.D * sm P.m (P.t j)) := by grind
  omega
theorem Inv.below (I : P.Inv S) (h : ∀ j, j < P.n → 0 ≤ S.T P.m j) (hz : S.T P.m (P.n + P.m) ≠ 0) :
    (∀ j, j < P.n → sm P.m (fun k => P.t j k * dual P S k) ≤ 0) ∧ 0 < dual P S (P.m - 1) := by
  have hm := P.hm
  refine ⟨fun j hj => ?_, ?_⟩
  · have := h j hj
    rw [I.lack_dual hj] at this
    omega
  · have e := I.row (i := P.m) (j := P.n + P.m) (by omega) (by omega)
    rw [if_pos rfl, sm_one (k := P.m - 1) (by omega) fun k hk ne => by rw [P.rt k (by omega), if_neg ne, if_neg (by omega)]; simp] at e
    rw [P.rt _ (by omega), P.rt _ (by omega), if_pos rfl, if_neg (by omega), if_pos rfl] at e
    have := I.lack_le
    unfold dual
    omega
theorem Inv.cancel (I : P.Inv S) (hz : S.T P.m (P.n + P.m) = 0) {k : Nat} (hk : k < P.m) :
    sm P.m (fun i => if S.c i < P.n then S.T i (P.n + P.m) * P.t (S.c i) k else 0) = if k = P.m - 1 then S.D else 0 := by
  have hm := P.hm
  have e := I.cr (P.n + P.m) (by omega) k (by omega)
  have e2 : sm (P.m + 1) (fun i => S.T i (P.n + P.m) * P.B S.c i k) = sm P.m (fun i => if S.c i < P.n then S.T i (P.n + P.m) * P.t (S.c i) k else 0) := by
    show sm P.m _ + _ = _
    dsimp only
    rw [hz, Int.zero_mul, Int.add_zero]
    refine sm_congr fun i hi => ?_
    rw [B_lt hi]
    by_cases q : S.c i < P.n
    · rw [if_pos q]
    · rw [if_neg q, I.art_zero hz hi q, Int.zero_mul]
  rw [← e2, ← e, P.rt k (by omega)]
  split
  · omega
  · rw [if_neg (by omega)]; omega

/-! bounds -/
theorem sm_abs {f : Nat → Int} {X : Nat} : ∀ {n : Nat}, (∀ i, i < n → (f i).natAbs ≤ X) → (sm n f).natAbs ≤ n * X
  | 0, _ => by simp [sm]
  | n + 1, h => by
    have ih := sm_abs (n := n) fun i hi => h i (Nat.lt_succ_of_lt hi)
    have h1 := h n (Nat.lt_succ_self n)
    show (sm n f + f n).natAbs ≤ (n + 1) * X
    rw [Nat.add_mul, Nat.one_mul]
    omega
theorem sg_abs : ∀ n, (sg n).natAbs = 1
  | 0 => rfl
  | n + 1 => by show (- sg n).natAbs = 1; rw [Int.natAbs_neg]; exact sg_abs n
theorem det_abs {X : Nat} : ∀ {d e : Nat} {C : Nat → Col}, d ≤ e → (∀ i, i < d → ∀ k, k < d → (C i k).natAbs ≤ X) → (det d C).natAbs ≤ (e * X) ^ d
  | 0, _, _, _, _ => by simp [det]
  | d + 1, e, C, he, h => by
    have h1 : ∀ j, j < d + 1 → (sg d * sg j * C j d * det d (fun k => C (skip j k))).natAbs ≤ X * (e * X) ^ d := fun j hj => by
      rw [Int.natAbs_mul, Int.natAbs_mul, Int.natAbs_mul, sg_abs, sg_abs]
      have a := h j hj d (by omega)
      have b := det_abs (d := d) (e := e) (C := fun k => C (skip j k)) (by omega) fun i hi k hk => h (skip j i) (by unfold skip; split <;> omega) k (by omega)
      rw [show 1 * 1 * (C j d).natAbs = (C j d).natAbs by omega]
      exact Nat.mul_le_mul a b
    refine Nat.le_trans (sm_abs h1) ?_
    rw [Nat.pow_succ, ← Nat.mul_assoc, Nat.mul_comm ((e * X) ^ d)]
    exact Nat.mul_le_mul_right _ (Nat.mul_le_mul_right _ he)
theorem Inv.abs (I : P.Inv S) {X : Nat} (hX : 1 ≤ X) (h : ∀ j, j < P.n + P.m + 1 → ∀ k, k < P.m + 1 → (P.t j k).natAbs ≤ X) : (S.D).natAbs ≤ ((P.m + 1) * X) ^ (P.m + 1) ∧ ∀ i, i < P.m + 1 → ∀ j, j < P.n + P.m + 1 → (S.T i j).natAbs ≤ ((P.m + 1) * X) ^ (P.m + 1) := by
  have hB : ∀ i, i < P.m + 1 → ∀ k, k < P.m + 1 → (P.B S.c i k).natAbs ≤ X := fun i hi k hk => by
    by_cases q : i < P.m
    · rw [B_lt q]
      have := I.cl i q
      exact h _ (by omega) k hk
    · have : i = P.m := by omega
      subst this
      rw [B_m]; unfold unit
      split <;> simp <;> omega
  refine ⟨?_, fun i hi j hj => ?_⟩
  · rw [I.dt]; exact det_abs (Nat.le_refl _) hB
  · rw [I.cramer hi hj]
    refine det_abs (Nat.le_refl _) fun a ha k hk => ?_
    by_cases q : a = i
    · subst q; rw [rep_same]; exact h j hj k hk
    · rw [rep_ne q]; exact hB a ha k hk
end Prob
end Sx
end
section
namespace Sx
theorem Prob.Inv.congr {P : Prob} {S S' : Tab} (I : P.Inv S) (hD : S'.D = S.D) (hc : ∀ i, i < P.m → S'.c i = S.c i) (hT : ∀ i, i < P.m + 1 → ∀ j, j < P.n + P.m + 1 → S'.T i j = S.T i j) : P.Inv S' := by
  have hm := P.hm
  have eB : P.B S'.c = P.B S.c := by
    funext i
    unfold Prob.B
    split
    · rename_i h; rw [hc i h]
    · rfl
  refine ⟨by rw [hD]; exact I.pos, by rw [hD, eB]; exact I.dt, fun j hj k hk => ?_, fun i hi => by rw [hc i hi]; exact I.cl i hi, fun i hi => by rw [hT i (by omega) _ (by omega)]; exact I.rh i hi⟩
  rw [hD, I.cr j hj k hk, eB]
  exact sm_congr fun i hi => by rw [hT i hi j hj]
/-! ### the table as lists -/
structure TS where
  many : Nat
  rows : List (List Int)
  chosen : List Int
  lacks : List Int
  below : Int
def cell (rows : List (List Int)) (i j : Nat) : Int := (rows.getD i []).getD j 0
/-- all rows have so many places, the last one the right side; all numbers are below 2 ^ 4000 -/
structure Shape (t : TS) (m N : Nat) : Prop where
  rl : t.rows.length = m
  re : ∀ i, i < m → (t.rows.getD i []).length = N
  ll : t.lacks.length = N
  cl : t.chosen.length = m
  mN : t.many < N
  hm : m < 1000
  hN : N < 1000
  pos : 0 < t.below
  bT : ∀ i, i < m → ∀ j, (cell t.rows i j).natAbs < 2 ^ 4000
  bL : ∀ j, (t.lacks.getD j 0).natAbs < 2 ^ 4000
  bD : t.below.natAbs < 2 ^ 4000
structure LeaveT (t : TS) (m N s r n : Nat) : Prop where
  lt : r < m
  ln : r < n
  pos : 0 < cell t.rows r s
  le : ∀ i, i < n → 0 < cell t.rows i s → cell t.rows r (N - 1) * cell t.rows i s < cell t.rows i (N - 1) * cell t.rows r s ∨ (cell t.rows r (N - 1) * cell t.rows i s = cell t.rows i (N - 1) * cell t.rows r s ∧ t.chosen.getD r 0 ≤ t.chosen.getD i 0)
def without (row pivot : List Int) (s : Nat) (d : Int) : List Int := (List.range row.length).map fun j => (row.getD j 0 * pivot.getD s 0 - row.getD s 0 * pivot.getD j 0) / d
def newRow (t : TS) (r s i : Nat) : List Int := if i = r then t.rows.getD i [] else without (t.rows.getD i []) (t.rows.getD r []) s t.below
def chooseT (t : TS) (r s : Nat) : TS := ⟨t.many, (List.range t.rows.length).map (newRow t r s), t.chosen.set r (s : Int), without t.lacks (t.rows.getD r []) s t.below, (t.rows.getD r []).getD s 0⟩
theorem without_get {row pivot : List Int} {s j : Nat} {d : Int} (h : j < row.length) : (without row pivot s d).getD j 0 = (row.getD j 0 * pivot.getD s 0 - row.getD s 0 * pivot.getD j 0) / d := by
  unfold without; simp [h]
theorem without_len {row pivot : List Int} {s : Nat} {d : Int} : (without row pivot s d).length = row.length := by unfold without; simp
theorem getD_map {α : Type} {n i : Nat} {f : Nat → α} {d : α} (h : i < n) : ((List.range n).map f).getD i d = f i := by simp [h]
theorem gd_l {α : Type} {xs ys : List α} {i : Nat} {d : α} (h : i < xs.length) : (xs ++ ys).getD i d = xs.getD i d := by
  rw [List.getD_eq_getElem?_getD, List.getD_eq_getElem?_getD, List.getElem?_append_left h]
theorem gd_r {α : Type} {xs ys : List α} {i : Nat} {d : α} (h : xs.length ≤ i) : (xs ++ ys).getD i d = ys.getD (i - xs.length) d := by
  rw [List.getD_eq_getElem?_getD, List.getD_eq_getElem?_getD, List.getElem?_append_right h]
/-! ### the problem of some lines -/
def pcol (m n : Nat) (S : List (List Int)) (j : Nat) : Col := fun l =>
  if j < n then (if l < m then cell S l j else - sm m (fun i => cell S i j)) else if j < n + m then unit (j - n) l else if l = m - 1 then 1 else if l = m then -1 else 0
def prob (m n : Nat) (S : List (List Int)) (hm : 0 < m) : Prob where
  m := m
  n := n
  t := pcol m n S
  hm := hm
  un := fun k hk l _ => by
    unfold pcol
    rw [if_neg (by omega), if_pos (by omega), show n + k - n = k by omega]
  wt := fun j hj => by
    show sm m (pcol m n S j) + pcol m n S j m = 0
    have e1 : pcol m n S j m = - sm m (fun i => cell S i j) := by unfold pcol; rw [if_pos hj, if_neg (by omega)]
    have e2 : sm m (pcol m n S j) = sm m (fun i => cell S i j) := sm_congr fun i hi => by unfold pcol; rw [if_pos hj, if_pos hi]
    rw [e1, e2]; omega
  rt := fun l _ => by
    unfold pcol
    rw [if_neg (by omega), if_neg (by omega)]
def view (m : Nat) (t : TS) : Tab := ⟨fun i j => if i < m then cell t.rows i j else t.lacks.getD j 0, fun i => (t.chosen.getD i 0).toNat, t.below⟩
/-- a table of the problem, as lists -/
structure Good (P : Prob) (t : TS) : Prop where
  n : t.many = P.n
  rl : t.rows.length = P.m
  re : ∀ i, i < P.m → (t.rows.getD i []).length = P.n + P.m + 1
  ll : t.lacks.length = P.n + P.m + 1
  cl : t.chosen.length = P.m
  cn : ∀ i, i < P.m → 0 ≤ t.chosen.getD i 0
  I : P.Inv (view P.m t)
section
variable {P : Prob} {t : TS}
theorem view_row {m i j : Nat} (h : i < m) : (view m t).T i j = cell t.rows i j := by show (if i < m then _ else _) = _; rw [if_pos h]
theorem view_lack {m j : Nat} : (view m t).T m j = t.lacks.getD j 0 := by show (if m < m then _ else _) = _; rw [if_neg (Nat.lt_irrefl _)]
theorem Good.leave {r s : Nat} (G : Good P t) (L : LeaveT t P.m (P.n + P.m + 1) s r P.m) : Prob.Leave P (view P.m t) r s := by
  refine ⟨L.lt, by rw [view_row L.lt]; exact L.pos, fun i hi h => ?_⟩
  rw [view_row hi] at h
  have := L.le i hi h
  rw [show P.n + P.m + 1 - 1 = P.n + P.m by omega] at this
  rw [view_row hi, view_row L.lt, view_row L.lt, view_row hi]
  have c1 := G.cn r L.lt
  have c2 := G.cn i hi
  rcases this with a | ⟨a, b⟩
  · exact .inl a
  · refine .inr ⟨a, ?_⟩
    show (t.chosen.getD r 0).toNat ≤ (t.chosen.getD i 0).toNat
    omega
theorem Good.choose {r s : Nat} (G : Good P t) (L : LeaveT t P.m (P.n + P.m + 1) s r P.m) (hs : s < P.n) : Good P (chooseT t r s) ∧ ∀ i, i < P.m → (view P.m (chooseT t r s)).c i = (Prob.piv (view P.m t) r s).c i := by
  have hr := L.lt
  have Lv := G.leave L
  have hc : ∀ i, i < P.m → (view P.m (chooseT t r s)).c i = (Prob.piv (view P.m t) r s).c i := fun i hi => by
    show ((t.chosen.set r (s : Int)).getD i 0).toNat = if i = r then s else (t.chosen.getD i 0).toNat
    by_cases q : i = r
    · subst q; rw [if_pos rfl]; simp [G.cl, hi]
    · rw [if_neg q]; simp [List.getElem?_set_ne (Ne.symm q)]
  refine ⟨⟨G.n, ?_, fun i hi => ?_, ?_, ?_, fun i hi => ?_, ?_⟩, hc⟩
  · show ((List.range t.rows.length).map (newRow t r s)).length = P.m
    rw [List.length_map, List.length_range, G.rl]
  · show (((List.range t.rows.length).map (newRow t r s)).getD i []).length = _
    rw [getD_map (by rw [G.rl]; exact hi)]
    unfold newRow
    split
    · exact G.re i hi
    · rw [without_len]; exact G.re i hi
  · show (without t.lacks (t.rows.getD r []) s t.below).length = _
    rw [without_len, G.ll]
  · show (t.chosen.set r (s : Int)).length = _
    rw [List.length_set, G.cl]
  · show 0 ≤ (t.chosen.set r (s : Int)).getD i 0
    by_cases q : i = r
    · subst q; simp [G.cl, hi]
    · have := G.cn i hi
      simpa [List.getElem?_set_ne (Ne.symm q)] using this
  · refine (G.I.piv Lv hs).congr ?_ hc fun i hi j hj => ?_
    · show (t.rows.getD r []).getD s 0 = (view P.m t).T r s
      rw [view_row hr]; rfl
    · show _ = if i = r then (view P.m t).T r j else ((view P.m t).T i j * (view P.m t).T r s - (view P.m t).T i s * (view P.m t).T r j) / t.below
      rw [view_row hr, view_row hr]
      by_cases q : i < P.m
      · rw [view_row q, view_row q, view_row q]
        show cell ((List.range t.rows.length).map (newRow t r s)) i j = _
        unfold cell
        rw [getD_map (by rw [G.rl]; exact q)]
        unfold newRow
        by_cases e : i = r
        · subst e; rw [if_pos rfl, if_pos rfl]
        · rw [if_neg e, if_neg e, without_get (by rw [G.re i q]; exact hj)]
      · have : i = P.m := by omega
        subst this
        rw [view_lack, view_lack, view_lack, if_neg (by omega)]
        show (without t.lacks (t.rows.getD r []) s t.below).getD j 0 = _
        rw [without_get (by rw [G.ll]; exact hj)]
        rfl
theorem Good.enter {s : Nat} (hs : s < P.n) (h : t.lacks.getD s 0 < 0) (h0 : ∀ j, j < s → 0 ≤ t.lacks.getD j 0) : Prob.Enter P (view P.m t) s :=
  ⟨hs, by rw [view_lack]; exact h, fun j hj => by rw [view_lack]; exact h0 j hj⟩
theorem Good.some {s : Nat} (G : Good P t) (hs : s < P.n) (h : t.lacks.getD s 0 < 0) : ∃ i, i < P.m ∧ 0 < cell t.rows i s := by
  obtain ⟨i, hi, p⟩ := G.I.some hs (by rw [view_lack]; exact h)
  rw [view_row hi] at p
  exact ⟨i, hi, p⟩
theorem Good.step {r s n : Nat} (G : Good P t) (F : Prob.Fin P n (view P.m t)) (E : Prob.Enter P (view P.m t) s) (L : LeaveT t P.m (P.n + P.m + 1) s r P.m) : Good P (chooseT t r s) ∧ ∃ n', n' < n ∧ Prob.Fin P n' (view P.m (chooseT t r s)) := by
  obtain ⟨G', hc⟩ := G.choose L E.lt
  refine ⟨G', ?_⟩
  cases n with
  | zero => exact absurd ⟨s, E⟩ F
  | succ n => exact ⟨n, Nat.lt_succ_self n, F _ ⟨G'.I, r, s, E, G.leave L, hc⟩⟩
theorem cell_out {rows : List (List Int)} {i j N : Nat} (h : ∀ i, i < rows.length → (rows.getD i []).length = N) (hj : N ≤ j) : cell rows i j = 0 := by
  unfold cell
  by_cases hi : i < rows.length
  · have := h i hi
    rw [List.getD_eq_getElem?_getD, List.getElem?_eq_none (by omega)]; rfl
  · rw [List.getD_eq_getElem?_getD (l := rows), List.getElem?_eq_none (by omega)]; simp
theorem two_pos (k : Nat) : 0 < 2 ^ k := Nat.pow_pos (by decide)
/-- the numbers' bound -/
theorem Good.shape {X : Nat} (G : Good P t) (hX : 1 ≤ X) (hb : ∀ j, j < P.n + P.m + 1 → ∀ k, k < P.m + 1 → (P.t j k).natAbs ≤ X) (h2 : ((P.m + 1) * X) ^ (P.m + 1) < 2 ^ 4000) (hm : P.m < 1000) (hN : P.n + P.m + 1 < 1000) : Shape t P.m (P.n + P.m + 1) := by
  obtain ⟨a1, a2⟩ := G.I.abs hX hb
  refine ⟨G.rl, G.re, G.ll, G.cl, by rw [G.n]; omega, hm, hN, G.I.pos, fun i hi j => ?_, fun j => ?_, Nat.lt_of_le_of_lt a1 h2⟩
  · by_cases q : j < P.n + P.m + 1
    · have := a2 i (by omega) j q
      rw [view_row hi] at this
      omega
    · rw [cell_out (N := P.n + P.m + 1) (fun i hi => G.re i (by rw [← G.rl]; exact hi)) (by omega)]
      exact two_pos 4000
  · by_cases q : j < P.n + P.m + 1
    · have := a2 P.m (by omega) j q
      rw [view_lack] at this
      omega
    · rw [List.getD_eq_getElem?_getD, List.getElem?_eq_none (by rw [G.ll]; omega)]
      exact two_pos 4000
end
/-! ### the beginning -/
def ind (b : Bool) : Int := if b then 1 else 0
def markedRow (n i : Nat) (row : List Int) : List Int := row ++ ((List.range n).map (fun j => ind (i == j)) ++ [ind (i == n - 1)])
def marked (rows : List (List Int)) : List (List Int) := (List.range rows.length).map fun i => markedRow rows.length i (rows.getD i [])
def lacks0 (m n : Nat) (S : List (List Int)) : List Int := (List.range n).map (fun s => 0 - ((List.range m).map (fun i => cell S i s)).sum) ++ ((List.range m).map (fun _ => (0 : Int)) ++ [-1])
def start (m n : Nat) (S : List (List Int)) : TS := ⟨n, marked S, (List.range m).map (fun i : Nat => (n : Int) + (i : Int)), lacks0 m n S, 1⟩
theorem sum_sm (f : Nat → Int) : ∀ m, ((List.range m).map f).sum = sm m f
  | 0 => rfl
  | m + 1 => by rw [List.range_succ, List.map_append, List.sum_append, sum_sm f m]; simp [sm]
theorem start_good {m n : Nat} {S : List (List Int)} (hm : 0 < m) (hS : S.length = m) (hr : ∀ i, i < m → (S.getD i []).length = n) : Good (prob m n S hm) (start m n S) := by
  have mr : ∀ i, i < m → (marked S).getD i [] = markedRow m i (S.getD i []) := fun i hi => by
    unfold marked; rw [getD_map (by omega), hS]
  have T0 : ∀ i, i < m + 1 → ∀ j, j < n + m + 1 → (view m (start m n S)).T i j = pcol m n S j i := fun i hi j hj => by
    by_cases q : i < m
    · rw [view_row q]
      show ((marked S).getD i []).getD j 0 = _
      rw [mr i q]
      unfold markedRow pcol
      have hl := hr i q
      by_cases c1 : j < n
      · rw [if_pos c1, if_pos q, gd_l (by omega)]; rfl
      · rw [if_neg c1, gd_r (by omega), hl]
        by_cases c2 : j < n + m
        · rw [if_pos c2, gd_l (by simp; omega), getD_map (by omega)]
          unfold ind unit
          by_cases e : i = j - n
          · simp [e]
          · simp [e]
        · rw [if_neg c2, gd_r (by simp; omega)]
          have : j - n - ((List.range m).map fun j => ind (i == j)).length = 0 := by simp; omega
          rw [this]
          show ind (i == m - 1) = _
          unfold ind
          by_cases e : i = m - 1
          · simp [e]
          · have : i ≠ m := by omega
            simp [e, this]
    · have : i = m := by omega
      subst this
      rw [view_lack]
      show (lacks0 i n S).getD j 0 = _
      unfold lacks0 pcol
      by_cases c1 : j < n
      · rw [if_pos c1, if_neg q, gd_l (by simp; omega), getD_map c1, sum_sm]; omega
      · rw [if_neg c1, gd_r (by simp; omega), List.length_map, List.length_range]
        by_cases c2 : j < n + i
        · rw [if_pos c2, gd_l (by simp; omega), getD_map (by omega)]
          unfold unit
          rw [if_neg (by omega)]
        · rw [if_neg c2, gd_r (by simp; omega)]
          have : j - n - ((List.range i).map fun _ => (0 : Int)).length = 0 := by simp; omega
          rw [this, if_neg (by omega), if_pos rfl]
          rfl
  refine ⟨rfl, ?_, fun i (hi : i < m) => ?_, ?_, ?_, fun i (hi : i < m) => ?_, ?_⟩
  · show (marked S).length = m
    unfold marked; rw [List.length_map, List.length_range, hS]
  · show ((marked S).getD i []).length = n + m + 1
    rw [mr i hi]
    unfold markedRow
    have := hr i hi
    simp only [List.length_append, List.length_map, List.length_range, List.length_singleton]; omega
  · show (lacks0 m n S).length = n + m + 1
    unfold lacks0; simp; omega
  · show ((List.range m).map fun i : Nat => (n : Int) + (i : Int)).length = m
    rw [List.length_map, List.length_range]
  · show 0 ≤ ((List.range m).map fun i : Nat => (n : Int) + (i : Int)).getD i 0
    rw [getD_map hi]; omega
  · refine (Prob.begin_inv (P := prob m n S hm)).congr rfl (fun i (hi : i < m) => ?_) fun i hi j hj => ?_
    · show (((List.range m).map fun i : Nat => (n : Int) + (i : Int)).getD i 0).toNat = n + i
      rw [getD_map hi]; omega
    · exact T0 i hi j hj
end Sx
end
section
namespace Sx
open Prob (sm_abs)
/-! ### what is told -/
theorem big_le : 1000 * 2 ^ 4000 ≤ 2 ^ 4100 := by
  rw [show 4100 = 100 + 4000 from rfl, Nat.pow_add]
  exact Nat.mul_le_mul_right _ (by decide)
def dot (n : Nat) (a b : List Int) : Int := sm n (fun k => a.getD k 0 * b.getD k 0)
def row (R : List (List Int)) (i : Nat) : List Int := R.getD i []
structure Below (R E : List (List Int)) (size : Nat) (y : List Int) : Prop where
  len : y.length = size
  lt : ∀ i, i < R.length → dot size (row R i) y < 0
  eq : ∀ i, i < E.length → dot size (row E i) y = 0
  bd : ∀ k, (y.getD k 0).natAbs < 2 ^ 4100
structure Cancel (R E : List (List Int)) (size : Nat) (x z : List Int) : Prop where
  xl : x.length = R.length
  zl : z.length = E.length
  x0 : ∀ i, 0 ≤ x.getD i 0
  pos : 0 < sm R.length (fun i => x.getD i 0)
  eq : ∀ k, k < size → sm R.length (fun i => x.getD i 0 * cell R i k) + sm E.length (fun j => z.getD j 0 * cell E j k) = 0
  xb : ∀ k, (x.getD k 0).natAbs < 2 ^ 4100
  zb : ∀ k, (z.getD k 0).natAbs < 2 ^ 4100
theorem not_both {R E : List (List Int)} {size : Nat} {y x z : List Int} (b : Below R E size y) (c : Cancel R E size x z) : False := by
  have e1 : sm R.length (fun i => x.getD i 0 * dot size (row R i) y) + sm E.length (fun j => z.getD j 0 * dot size (row E j) y) = 0 := by
    have f : ∀ (n : Nat) (M : List (List Int)) (v : List Int), sm n (fun i => v.getD i 0 * dot size (row M i) y) = sm size (fun k => y.getD k 0 * sm n (fun i => v.getD i 0 * cell M i k)) := fun n M v => by
      unfold dot
      rw [sm_congr (g := fun i => sm size (fun k => v.getD i 0 * ((row M i).getD k 0 * y.getD k 0))) fun i _ => sm_mul.symm, sm_swap]
      refine sm_congr fun k _ => ?_
      rw [← sm_mul]
      refine sm_congr fun i _ => ?_
      unfold cell row; grind
    rw [f, f, ← sm_add]
    refine sm_zero fun k hk => ?_
    rw [← Int.mul_add, c.eq k hk, Int.mul_zero]
  have e2 : sm E.length (fun j => z.getD j 0 * dot size (row E j) y) = 0 := sm_zero fun j hj => by rw [b.eq j hj, Int.mul_zero]
  obtain ⟨i, hi, p⟩ := sm_pos c.pos
  have e3 : sm R.length (fun i => -(x.getD i 0 * dot size (row R i) y)) = 0 := by
    have : sm R.length (fun i => -(x.getD i 0 * dot size (row R i) y)) = -1 * sm R.length (fun i => x.getD i 0 * dot size (row R i) y) := by
      rw [← sm_mul]; exact sm_congr fun i _ => by omega
    rw [this]; omega
  have e4 := sm_all_zero (n := R.length) (f := fun i => -(x.getD i 0 * dot size (row R i) y)) (fun i hi => by
    have h1 := c.x0 i
    have h2 := b.lt i hi
    have : x.getD i 0 * dot size (row R i) y ≤ 0 := Int.mul_nonpos_of_nonneg_of_nonpos h1 (Int.le_of_lt h2)
    show 0 ≤ -(x.getD i 0 * dot size (row R i) y)
    omega) e3 i hi
  have : x.getD i 0 * dot size (row R i) y < 0 := Int.mul_neg_of_pos_of_neg p (b.lt i hi)
  omega
/-! ### the greatest common divisor -/
def gcdL (ns : List Int) : Nat := ns.foldl (fun g n => Nat.gcd g n.natAbs) 0
theorem gcd_fold_dvd : ∀ (ns : List Int) (g : Nat), (ns.foldl (fun g n => Nat.gcd g n.natAbs) g) ∣ g ∧ ∀ n ∈ ns, ((ns.foldl (fun g n => Nat.gcd g n.natAbs) g : Nat) : Int) ∣ n
  | [], g => ⟨Nat.dvd_refl _, fun n hn => by simp at hn⟩
  | n :: r, g => by
    obtain ⟨h1, h2⟩ := gcd_fold_dvd r (Nat.gcd g n.natAbs)
    refine ⟨Nat.dvd_trans h1 (Nat.gcd_dvd_left _ _), fun x hx => ?_⟩
    rcases List.mem_cons.mp hx with e | e
    · subst e
      exact Int.ofNat_dvd_left.mpr (Nat.dvd_trans h1 (Nat.gcd_dvd_right _ _))
    · exact h2 x e
theorem gcdL_dvd {ns : List Int} {n : Int} (h : n ∈ ns) : ((gcdL ns : Nat) : Int) ∣ n := (gcd_fold_dvd ns 0).2 n h
theorem gcdL_zero {ns : List Int} (h : ∀ y ∈ ns, y = 0) : gcdL ns = 0 := by
  unfold gcdL
  have : ∀ (l : List Int) (g : Nat), (∀ y ∈ l, y = 0) → l.foldl (fun g n => Nat.gcd g n.natAbs) g = g := by
    intro l
    induction l with
    | nil => intro g _; rfl
    | cons a r ih =>
      intro g hr
      rw [List.foldl_cons, hr a (by simp)]
      show r.foldl _ (Nat.gcd g 0) = g
      rw [Nat.gcd_zero_right]
      exact ih g fun y hy => hr y (by simp [hy])
  exact this ns 0 h
theorem gcdL_pos {ns : List Int} {n : Int} (h : n ∈ ns) (hn : n ≠ 0) : 0 < gcdL ns := by
  refine Nat.pos_of_ne_zero fun z => ?_
  have := gcdL_dvd h
  rw [z] at this
  exact hn (Int.zero_dvd.mp this)
theorem gcdL_le {ns : List Int} {n : Int} (h : n ∈ ns) (hn : n ≠ 0) : gcdL ns ≤ n.natAbs := Nat.le_of_dvd (by omega) (Int.ofNat_dvd_left.mp (gcdL_dvd h))
theorem div_abs {a g : Int} {b : Nat} (_ : 0 < g) (h : a.natAbs < b) : (a / g).natAbs < b := by
  have : (a / g).natAbs ≤ a.natAbs := Int.natAbs_ediv_le_natAbs a g
  omega
/-! ### the problem of rows and even rows -/
def cols (R E : List (List Int)) : List (List Int) := R.map (fun r => r ++ [1]) ++ (E.map (fun r => r ++ [0]) ++ E.map (fun r => r.map (fun x => 0 - x) ++ [0]))
def lines (m : Nat) (C : List (List Int)) : List (List Int) := (List.range m).map fun l => (List.range C.length).map fun j => cell C j l
theorem cell_lines {m l j : Nat} {C : List (List Int)} (hl : l < m) (hj : j < C.length) : cell (lines m C) l j = cell C j l := by
  show ((lines m C).getD l []).getD j 0 = _
  unfold lines
  rw [getD_map hl, getD_map hj]
section
variable {R E : List (List Int)} {size : Nat} (hR : ∀ i, i < R.length → (row R i).length = size) (hE : ∀ i, i < E.length → (row E i).length = size)
theorem cols_len : (cols R E).length = R.length + 2 * E.length := by unfold cols; simp; omega
theorem gd_map {α β : Type} {xs : List α} {f : α → β} {i : Nat} {d : β} {e : α} (h : i < xs.length) : (xs.map f).getD i d = f (xs.getD i e) := by simp [h]
include hR in
theorem cols_R {i k : Nat} (hi : i < R.length) (hk : k ≤ size) : cell (cols R E) i k = if k < size then cell R i k else 1 := by
  unfold cell cols
  rw [gd_l (by simp; exact hi), gd_map (e := []) hi]
  have := hR i hi
  unfold row at this
  by_cases q : k < size
  · rw [if_pos q, gd_l (by omega)]
  · rw [if_neg q, gd_r (by omega), this, show k - size = 0 by omega]; rfl
include hE in
theorem cols_U {i k : Nat} (hi : i < E.length) (hk : k ≤ size) : cell (cols R E) (R.length + i) k = if k < size then cell E i k else 0 := by
  unfold cell cols
  rw [gd_r (by simp), List.length_map, show R.length + i - R.length = i by omega, gd_l (by simp; exact hi), gd_map (e := []) hi]
  have := hE i hi
  unfold row at this
  by_cases q : k < size
  · rw [if_pos q, gd_l (by omega)]
  · rw [if_neg q, gd_r (by omega), this, show k - size = 0 by omega]; rfl
include hE in
theorem cols_D {i k : Nat} (hi : i < E.length) (hk : k ≤ size) : cell (cols R E) (R.length + E.length + i) k = if k < size then - cell E i k else 0 := by
  unfold cell cols
  rw [gd_r (by simp; omega), List.length_map, show R.length + E.length + i - R.length = E.length + i by omega, gd_r (by simp), List.length_map, show E.length + i - E.length = i by omega, gd_map (e := []) hi]
  have := hE i hi
  unfold row at this
  by_cases q : k < size
  · rw [if_pos q, gd_l (by rw [List.length_map]; omega), gd_map (e := 0) (by omega)]; omega
  · rw [if_neg q, gd_r (by rw [List.length_map]; omega), List.length_map, this, show k - size = 0 by omega]; rfl
theorem gd_mem {α : Type} {xs : List α} {i : Nat} {d : α} (h : i < xs.length) : xs.getD i d ∈ xs := by
  have : xs.getD i d = xs[i] := by simp [h]
  rw [this]; exact List.getElem_mem h
theorem sm_split {a b : Nat} {f : Nat → Int} : sm (a + b) f = sm a f + sm b (fun i => f (a + i)) := by
  induction b with
  | zero => show sm a f = sm a f + 0; omega
  | succ b ih =>
    show sm (a + b) f + f (a + b) = sm a f + (sm b (fun i => f (a + i)) + f (a + b))
    omega
variable {t : TS}
/-- the problem -/
abbrev pb (R E : List (List Int)) (size : Nat) : Prob := prob (size + 1) (R.length + 2 * E.length) (lines (size + 1) (cols R E)) (Nat.succ_pos size)
theorem pb_t {j l : Nat} (hj : j < R.length + 2 * E.length) (hl : l < size + 1) : (pb R E size).t j l = cell (cols R E) j l := by
  show pcol _ _ _ j l = _
  unfold pcol
  rw [if_pos hj, if_pos hl, cell_lines hl (by rw [cols_len]; exact hj)]
def duals (t : TS) (n size : Nat) : List Int := (List.range size).map fun k => t.below - t.lacks.getD (n + k) 0
def nums (t : TS) (n size : Nat) : List Int := (duals t n size).map fun y => y / (max 1 (gcdL (duals t n size)) : Nat)
include hR hE in
theorem below_of (G : Good (pb R E size) t) (S : Shape t (size + 1) (R.length + 2 * E.length + (size + 1) + 1)) (h : ∀ j, j < R.length + 2 * E.length → 0 ≤ t.lacks.getD j 0) (hz : t.lacks.getD (R.length + 2 * E.length + (size + 1)) 0 ≠ 0) :
    Below R E size (nums t (R.length + 2 * E.length) size) := by
  have hI := G.I.below (fun j hj => by rw [view_lack]; exact h j hj) (by rw [view_lack]; exact hz)
  obtain ⟨h1, h2⟩ := hI
  have dl : ∀ k, Prob.dual (pb R E size) (view (size + 1) t) k = t.below - t.lacks.getD (R.length + 2 * E.length + k) 0 := fun k => by
    show t.below - (view (size + 1) t).T (size + 1) (R.length + 2 * E.length + k) = _
    rw [view_lack]
  have dg : ∀ k, k < size → (duals t (R.length + 2 * E.length) size).getD k 0 = t.below - t.lacks.getD (R.length + 2 * E.length + k) 0 := fun k hk => by unfold duals; rw [getD_map hk]
  have dl2 : (duals t (R.length + 2 * E.length) size).length = size := by unfold duals; simp
  have col : ∀ j, j < R.length + 2 * E.length → sm size (fun k => cell (cols R E) j k * (duals t (R.length + 2 * E.length) size).getD k 0) + cell (cols R E) j size * (t.below - t.lacks.getD (R.length + 2 * E.length + size) 0) ≤ 0 := fun j hj => by
    have := h1 j hj
    have e : sm (size + 1) (fun k => (pb R E size).t j k * Prob.dual (pb R E size) (view (size + 1) t) k) = sm size (fun k => cell (cols R E) j k * (duals t (R.length + 2 * E.length) size).getD k 0) + cell (cols R E) j size * (t.below - t.lacks.getD (R.length + 2 * E.length + size) 0) := by
      show sm size _ + _ = _
      dsimp only
      rw [dl, pb_t hj (by omega)]
      congr 1
      exact sm_congr fun k hk => by rw [dl, pb_t hj (by omega), dg k hk]
    rw [← e]; exact this
  have h2' : 0 < t.below - t.lacks.getD (R.length + 2 * E.length + size) 0 := by
    have e := dl size
    have h2' : 0 < Prob.dual (pb R E size) (view (size + 1) t) size := h2
    rw [e] at h2'
    exact h2'
  have g : ∃ g : Nat, 0 < g ∧ g = max 1 (gcdL (duals t (R.length + 2 * E.length) size)) ∧ ∀ y ∈ duals t (R.length + 2 * E.length) size, (g : Int) ∣ y := by
    by_cases q : gcdL (duals t (R.length + 2 * E.length) size) = 0
    · exact ⟨1, by decide, by rw [q]; rfl, fun y _ => Int.one_dvd y⟩
    · exact ⟨_, Nat.pos_of_ne_zero q, by omega, fun y hy => gcdL_dvd hy⟩
  obtain ⟨g, g0, ge, gd⟩ := g
  have ng : ∀ k, k < size → (g : Int) * (nums t (R.length + 2 * E.length) size).getD k 0 = (duals t (R.length + 2 * E.length) size).getD k 0 := fun k hk => by
    unfold nums
    rw [← ge, gd_map (e := 0) (by rw [dl2]; exact hk)]
    have hm : (duals t (R.length + 2 * E.length) size).getD k 0 ∈ duals t (R.length + 2 * E.length) size := by
      exact gd_mem (by rw [dl2]; exact hk)
    rw [Int.mul_comm]
    exact Int.ediv_mul_cancel (gd _ hm)
  have gdot : ∀ M i, (g : Int) * dot size (row M i) (nums t (R.length + 2 * E.length) size) = sm size (fun k => cell M i k * (duals t (R.length + 2 * E.length) size).getD k 0) := fun M i => by
    unfold dot
    rw [← sm_mul]
    refine sm_congr fun k hk => ?_
    rw [← ng k hk]
    unfold cell row; grind
  have gi : (0 : Int) < (g : Int) := by omega
  refine ⟨by unfold nums; rw [List.length_map, dl2], fun i hi => ?_, fun i hi => ?_, fun k => ?_⟩
  · have := col i (by omega)
    rw [cols_R (E := E) hR hi (Nat.le_refl size), if_neg (Nat.lt_irrefl _)] at this
    have e : sm size (fun k => cell (cols R E) i k * (duals t (R.length + 2 * E.length) size).getD k 0) = (g : Int) * dot size (row R i) (nums t (R.length + 2 * E.length) size) := by
      rw [gdot]
      exact sm_congr fun k hk => by rw [cols_R (E := E) hR hi (Nat.le_of_lt hk), if_pos hk]
    rw [e] at this
    have lt : (g : Int) * dot size (row R i) (nums t (R.length + 2 * E.length) size) < 0 := by omega
    refine Decidable.byContradiction fun c => ?_
    have := Int.mul_nonneg (Int.le_of_lt gi) (show 0 ≤ dot size (row R i) (nums t (R.length + 2 * E.length) size) by omega)
    omega
  · have a := col (R.length + i) (by omega)
    have b := col (R.length + E.length + i) (by omega)
    rw [cols_U (R := R) hE hi (Nat.le_refl size), if_neg (Nat.lt_irrefl _)] at a
    rw [cols_D (R := R) hE hi (Nat.le_refl size), if_neg (Nat.lt_irrefl _)] at b
    have e : sm size (fun k => cell (cols R E) (R.length + i) k * (duals t (R.length + 2 * E.length) size).getD k 0) = (g : Int) * dot size (row E i) (nums t (R.length + 2 * E.length) size) := by
      rw [gdot]
      exact sm_congr fun k hk => by rw [cols_U (R := R) hE hi (Nat.le_of_lt hk), if_pos hk]
    have e' : sm size (fun k => cell (cols R E) (R.length + E.length + i) k * (duals t (R.length + 2 * E.length) size).getD k 0) = -1 * ((g : Int) * dot size (row E i) (nums t (R.length + 2 * E.length) size)) := by
      rw [gdot, ← sm_mul]
      exact sm_congr fun k hk => by rw [cols_D (R := R) hE hi (Nat.le_of_lt hk), if_pos hk]; grind
    rw [e] at a
    rw [e'] at b
    have z : (g : Int) * dot size (row E i) (nums t (R.length + 2 * E.length) size) = 0 := by omega
    rcases Int.mul_eq_zero.mp z with h | h
    · omega
    · exact h
  · by_cases hk : k < size
    · unfold nums
      rw [← ge, gd_map (e := 0) (by rw [dl2]; exact hk), dg k hk]
      refine div_abs gi ?_
      have b1 := S.bD
      have b2 := S.bL (R.length + 2 * E.length + k)
      have b3 := big_le
      omega
    · rw [List.getD_eq_getElem?_getD, List.getElem?_eq_none (by unfold nums; rw [List.length_map, dl2]; omega)]
      exact two_pos 4100
/-! ### what cancels -/
def valS (t : TS) (m n s : Nat) : Int := sm m (fun i => if (t.chosen.getD i 0).toNat = s then cell t.rows i (n + m) else 0)
def vals (t : TS) (m n : Nat) : List Int := ((List.range m).filter fun i => decide (t.chosen.getD i 0 < (n : Int))).map fun i => cell t.rows i (n + m)
def times (t : TS) (m n : Nat) : List Int := (List.range n).map fun s => valS t m n s / (gcdL (vals t m n) : Nat)
theorem sm_dvd {g : Int} {f : Nat → Int} : ∀ {n : Nat}, (∀ i, i < n → g ∣ f i) → g ∣ sm n f
  | 0, _ => Int.dvd_zero g
  | n + 1, h => Int.dvd_add (sm_dvd fun i hi => h i (Nat.lt_succ_of_lt hi)) (h n (Nat.lt_succ_self n))
theorem sm_pick {m n : Nat} {c : Nat → Nat} {v u : Nat → Int} : sm n (fun s => sm m (fun i => if c i = s then v i else 0) * u s) = sm m (fun i => if c i < n then v i * u (c i) else 0) := by
  rw [sm_congr (g := fun s => sm m (fun i => u s * (if c i = s then v i else 0))) fun s _ => by rw [sm_mul, Int.mul_comm], sm_swap]
  refine sm_congr fun i _ => ?_
  by_cases q : c i < n
  · rw [if_pos q, sm_one (k := c i) q fun s _ ne => by rw [if_neg (fun z => ne z.symm), Int.mul_zero], if_pos rfl, Int.mul_comm]
  · rw [if_neg q]
    exact sm_zero fun s hs => by rw [if_neg (by omega), Int.mul_zero]
theorem Good.valS_at {P : Prob} {i : Nat} (G : Good P t) (hi : i < P.m) : valS t P.m P.n (t.chosen.getD i 0).toNat = cell t.rows i (P.n + P.m) := by
  unfold valS
  rw [sm_one (k := i) hi fun l hl ne => if_neg fun z => ne ?_, if_pos rfl]
  exact G.I.inj hl hi z
theorem valS_none {m n s : Nat} (h : ∀ i, i < m → (t.chosen.getD i 0).toNat ≠ s) : valS t m n s = 0 := sm_zero fun i hi => if_neg (h i hi)
include hR hE in
theorem cancel_of (G : Good (pb R E size) t) (S : Shape t (size + 1) (R.length + 2 * E.length + (size + 1) + 1)) (hz : t.lacks.getD (R.length + 2 * E.length + (size + 1)) 0 = 0) :
    Cancel R E size ((times t (size + 1) (R.length + 2 * E.length)).take R.length)
      ((List.range E.length).map fun j => (times t (size + 1) (R.length + 2 * E.length)).getD (R.length + j) 0 - (times t (size + 1) (R.length + 2 * E.length)).getD (R.length + E.length + j) 0) := by
  have hc := fun k (hk : k < size + 1) => G.I.cancel (k := k) (by rw [view_lack]; exact hz) hk
  have v0 : ∀ i, i < size + 1 → 0 ≤ cell t.rows i (R.length + 2 * E.length + (size + 1)) := fun i hi => by
    have this : 0 ≤ (view (size + 1) t).T i (R.length + 2 * E.length + (size + 1)) := G.I.rh i hi
    rw [view_row hi] at this
    exact this
  have key : ∀ k, k < size + 1 → sm (R.length + 2 * E.length) (fun s => valS t (size + 1) (R.length + 2 * E.length) s * cell (cols R E) s k) = if k = size then t.below else 0 := fun k hk => by
    have e := hc k hk
    unfold valS
    rw [sm_pick]
    refine Eq.trans ?_ e
    refine sm_congr fun i hi => ?_
    show _ = if (t.chosen.getD i 0).toNat < R.length + 2 * E.length then (view (size + 1) t).T i (R.length + 2 * E.length + (size + 1)) * (pb R E size).t (t.chosen.getD i 0).toNat k else 0
    by_cases q : (t.chosen.getD i 0).toNat < R.length + 2 * E.length
    · rw [if_pos q, if_pos q, view_row hi, pb_t q hk]
    · rw [if_neg q, if_neg q]
  have vn : ∀ s, 0 ≤ valS t (size + 1) (R.length + 2 * E.length) s := fun s => sm_nonneg fun i hi => by
    have := v0 i hi
    split
    · exact this
    · exact Int.le_refl 0
  have vm : ∀ i, i < size + 1 → (t.chosen.getD i 0).toNat < R.length + 2 * E.length → cell t.rows i (R.length + 2 * E.length + (size + 1)) ∈ vals t (size + 1) (R.length + 2 * E.length) := fun i hi hl => by
    have c0 := G.cn i hi
    exact List.mem_map.mpr ⟨i, List.mem_filter.mpr ⟨List.mem_range.mpr hi, decide_eq_true (by omega)⟩, rfl⟩
  have vd : ∀ s, s < R.length + 2 * E.length → ((gcdL (vals t (size + 1) (R.length + 2 * E.length)) : Nat) : Int) ∣ valS t (size + 1) (R.length + 2 * E.length) s := fun s hs => sm_dvd fun i hi => by
    by_cases q : (t.chosen.getD i 0).toNat = s
    · rw [if_pos q]; exact gcdL_dvd (vm i hi (by omega))
    · rw [if_neg q]; exact Int.dvd_zero _
  have total : sm R.length (fun s => valS t (size + 1) (R.length + 2 * E.length) s) = t.below := by
    have e := key size (Nat.lt_succ_self size)
    rw [if_pos rfl, sm_split] at e
    have e2 : sm (2 * E.length) (fun i => valS t (size + 1) (R.length + 2 * E.length) (R.length + i) * cell (cols R E) (R.length + i) size) = 0 := sm_zero fun i hi => by
      by_cases q : i < E.length
      · rw [cols_U (R := R) hE q (Nat.le_refl size), if_neg (Nat.lt_irrefl _), Int.mul_zero]
      · have := cols_D (R := R) hE (i := i - E.length) (by omega) (Nat.le_refl size)
        rw [show R.length + E.length + (i - E.length) = R.length + i by omega, if_neg (Nat.lt_irrefl _)] at this
        rw [this, Int.mul_zero]
    rw [e2, Int.add_zero] at e
    rw [← e]
    exact sm_congr fun i hi => by rw [cols_R (E := E) hR hi (Nat.le_refl size), if_neg (Nat.lt_irrefl _), Int.mul_one]
  have gpos : 0 < gcdL (vals t (size + 1) (R.length + 2 * E.length)) := by
    obtain ⟨s, hs, p⟩ := sm_pos (n := R.length) (f := fun s => valS t (size + 1) (R.length + 2 * E.length) s) (by rw [total]; exact S.pos)
    obtain ⟨i, hi, p2⟩ := sm_pos (n := size + 1) (f := fun i => if (t.chosen.getD i 0).toNat = s then cell t.rows i (R.length + 2 * E.length + (size + 1)) else 0) p
    have p3 : 0 < (if (t.chosen.getD i 0).toNat = s then cell t.rows i (R.length + 2 * E.length + (size + 1)) else 0) := p2
    by_cases q : (t.chosen.getD i 0).toNat = s
    · rw [if_pos q] at p3
      exact gcdL_pos (vm i hi (by omega)) (by omega)
    · rw [if_neg q] at p3; omega
  have gi : (0 : Int) < (gcdL (vals t (size + 1) (R.length + 2 * E.length)) : Nat) := by omega
  have tg : ∀ s, s < R.length + 2 * E.length → ((gcdL (vals t (size + 1) (R.length + 2 * E.length)) : Nat) : Int) * (times t (size + 1) (R.length + 2 * E.length)).getD s 0 = valS t (size + 1) (R.length + 2 * E.length) s := fun s hs => by
    unfold times
    rw [getD_map hs, Int.mul_comm]
    exact Int.ediv_mul_cancel (vd s hs)
  have tl : (times t (size + 1) (R.length + 2 * E.length)).length = R.length + 2 * E.length := by unfold times; simp
  have tn : ∀ s, 0 ≤ (times t (size + 1) (R.length + 2 * E.length)).getD s 0 := fun s => by
    by_cases hs : s < R.length + 2 * E.length
    · unfold times
      rw [getD_map hs]
      exact Int.ediv_nonneg (vn s) (Int.le_of_lt gi)
    · rw [List.getD_eq_getElem?_getD, List.getElem?_eq_none (by omega)]; exact Int.le_refl 0
  have tb : ∀ s, (times t (size + 1) (R.length + 2 * E.length)).getD s 0 ≤ (1000 * 2 ^ 4000 : Nat) - 1000 := fun s => by
    by_cases hs : s < R.length + 2 * E.length
    · have h1 : (valS t (size + 1) (R.length + 2 * E.length) s).natAbs ≤ (size + 1) * (2 ^ 4000 - 1) := sm_abs fun i hi => by
        have := S.bT i hi (R.length + 2 * E.length + (size + 1))
        split
        · omega
        · simp
      have h2 : ((times t (size + 1) (R.length + 2 * E.length)).getD s 0).natAbs ≤ (valS t (size + 1) (R.length + 2 * E.length) s).natAbs := by
        unfold times; rw [getD_map hs]; exact Int.natAbs_ediv_le_natAbs _ _
      have h3 : (size + 1) * (2 ^ 4000 - 1) ≤ 1000 * (2 ^ 4000 - 1) := Nat.mul_le_mul_right _ (Nat.le_of_lt S.hm)
      have h4 := tn s
      have h5 := two_pos 4000
      omega
    · rw [List.getD_eq_getElem?_getD, List.getElem?_eq_none (by omega)]
      have h5 := two_pos 4000
      show (0 : Int) ≤ _
      omega
  have big := big_le
  have tk : ∀ i, i < R.length → ((times t (size + 1) (R.length + 2 * E.length)).take R.length).getD i 0 = (times t (size + 1) (R.length + 2 * E.length)).getD i 0 := fun i hi => by
    rw [List.getD_eq_getElem?_getD, List.getElem?_take_of_lt hi, List.getD_eq_getElem?_getD]
  have tk0 : ∀ i, R.length ≤ i → ((times t (size + 1) (R.length + 2 * E.length)).take R.length).getD i 0 = 0 := fun i hi => by
    rw [List.getD_eq_getElem?_getD, List.getElem?_eq_none (by rw [List.length_take]; omega)]; rfl
  refine ⟨by rw [List.length_take, tl]; omega, by simp, fun i => ?_, ?_, fun k hk => ?_, fun i => ?_, fun i => ?_⟩
  · by_cases hi : i < R.length
    · rw [tk i hi]; exact tn i
    · rw [tk0 i (by omega)]; exact Int.le_refl 0
  · have e : ((gcdL (vals t (size + 1) (R.length + 2 * E.length)) : Nat) : Int) * sm R.length (fun i => ((times t (size + 1) (R.length + 2 * E.length)).take R.length).getD i 0) = t.below := by
      rw [← sm_mul, ← total]
      exact sm_congr fun i hi => by rw [tk i hi, tg i (by omega)]
    have hp := S.pos
    rw [← e] at hp
    exact Int.pos_of_mul_pos_right hp gi
  · have e := key k (by omega)
    rw [if_neg (by omega), show R.length + 2 * E.length = R.length + (E.length + E.length) by omega, sm_split, sm_split] at e
    rw [show R.length + (E.length + E.length) = R.length + 2 * E.length by omega] at e
    have g1 : ((gcdL (vals t (size + 1) (R.length + 2 * E.length)) : Nat) : Int) * (sm R.length (fun i => ((times t (size + 1) (R.length + 2 * E.length)).take R.length).getD i 0 * cell R i k) +
        sm E.length (fun j => ((List.range E.length).map fun j => (times t (size + 1) (R.length + 2 * E.length)).getD (R.length + j) 0 - (times t (size + 1) (R.length + 2 * E.length)).getD (R.length + E.length + j) 0).getD j 0 * cell E j k)) = 0 := by
      rw [Int.mul_add, ← sm_mul, ← sm_mul]
      refine Eq.trans ?_ e
      congr 1
      · refine sm_congr fun i hi => ?_
        rw [tk i hi, cols_R (E := E) hR hi (Nat.le_of_lt hk), if_pos hk, ← Int.mul_assoc, tg i (by omega)]
      · rw [← sm_add]
        refine sm_congr fun j hj => ?_
        rw [getD_map hj, cols_U (R := R) hE hj (Nat.le_of_lt hk), if_pos hk, ← Nat.add_assoc, cols_D (R := R) hE hj (Nat.le_of_lt hk), if_pos hk, ← tg _ (show R.length + j < R.length + 2 * E.length by omega), ← tg _ (show R.length + E.length + j < R.length + 2 * E.length by omega)]
        grind
    rcases Int.mul_eq_zero.mp g1 with h | h
    · omega
    · exact h
  · by_cases hi : i < R.length
    · rw [tk i hi]
      have h1 := tn i
      have h2 := tb i
      have h5 := two_pos 4000
      omega
    · rw [tk0 i (by omega)]; exact two_pos 4100
  · by_cases hi : i < E.length
    · rw [getD_map hi]
      have h1 := tn (R.length + i)
      have h2 := tb (R.length + i)
      have h3 := tn (R.length + E.length + i)
      have h4 := tb (R.length + E.length + i)
      have h5 := two_pos 4000
      omega
    · rw [List.getD_eq_getElem?_getD, List.getElem?_eq_none (by simp; omega)]; exact two_pos 4100
end
end Sx
end
section
namespace Sx
variable {R E : List (List Int)} {size : Nat}
theorem cols_bd (hR : ∀ i, i < R.length → (row R i).length = size) (hE : ∀ i, i < E.length → (row E i).length = size) (bR : ∀ i k, (cell R i k).natAbs < 2 ^ 100) (bE : ∀ i k, (cell E i k).natAbs < 2 ^ 100) {j k : Nat} (hj : j < R.length + 2 * E.length) (hk : k < size + 1) : (cell (cols R E) j k).natAbs < 2 ^ 100 := by
  have p1 : (1 : Nat) < 2 ^ 100 := by decide
  by_cases h1 : j < R.length
  · rw [cols_R hR h1 (by omega)]
    split
    · exact bR j k
    · exact p1
  · by_cases h2 : j < R.length + E.length
    · have := cols_U (R := R) hE (i := j - R.length) (by omega) (show k ≤ size by omega)
      rw [show R.length + (j - R.length) = j by omega] at this
      rw [this]
      split
      · exact bE _ k
      · show 0 < 2 ^ 100; omega
    · have := cols_D (R := R) hE (i := j - R.length - E.length) (by omega) (show k ≤ size by omega)
      rw [show R.length + E.length + (j - R.length - E.length) = j by omega] at this
      rw [this]
      split
      · rw [Int.natAbs_neg]; exact bE _ k
      · show 0 < 2 ^ 100; omega
theorem len_mem {M : List (List Int)} (h : ∀ i, i < M.length → (row M i).length = size) {r : List Int} (hr : r ∈ M) : r.length = size := by
  obtain ⟨i, hi, e⟩ := List.getElem_of_mem hr
  have := h i hi
  unfold row at this
  rw [show M.getD i [] = M[i] by simp [hi], e] at this
  exact this
theorem cols_each (hR : ∀ i, i < R.length → (row R i).length = size) (hE : ∀ i, i < E.length → (row E i).length = size) (i : Nat) (hi : i < (cols R E).length) : ((cols R E).getD i []).length = size + 1 := by
  have hm : (cols R E).getD i [] ∈ cols R E := by
    rw [show (cols R E).getD i [] = (cols R E)[i] by simp [hi]]
    exact List.getElem_mem hi
  generalize (cols R E).getD i [] = c at hm
  unfold cols at hm
  rcases List.mem_append.mp hm with h | h
  · obtain ⟨r, hr, rfl⟩ := List.mem_map.mp h
    rw [List.length_append, len_mem hR hr]; rfl
  · rcases List.mem_append.mp h with h | h
    · obtain ⟨r, hr, rfl⟩ := List.mem_map.mp h
      rw [List.length_append, len_mem hE hr]; rfl
    · obtain ⟨r, hr, rfl⟩ := List.mem_map.mp h
      rw [List.length_append, List.length_map, len_mem hE hr]; rfl
theorem lines_len {m : Nat} {C : List (List Int)} : (lines m C).length = m := by unfold lines; simp
theorem lines_each {m : Nat} {C : List (List Int)} (i : Nat) (hi : i < m) : ((lines m C).getD i []).length = C.length := by unfold lines; rw [getD_map hi]; simp
theorem pb_shape {t : TS} (hR : ∀ i, i < R.length → (row R i).length = size) (hE : ∀ i, i < E.length → (row E i).length = size) (bR : ∀ i k, (cell R i k).natAbs < 2 ^ 100) (bE : ∀ i k, (cell E i k).natAbs < 2 ^ 100) (hs : size ≤ 20) (hn : R.length + 2 * E.length ≤ 100)
    (G : Good (pb R E size) t) : Shape t (size + 1) (R.length + 2 * E.length + (size + 1) + 1) := by
  refine G.shape (X := 2 ^ 105) (by decide) (fun j hj k hk => ?_) ?_ (show size + 1 < 1000 by omega) (show R.length + 2 * E.length + (size + 1) + 1 < 1000 by omega)
  · have hj' : j < R.length + 2 * E.length + (size + 1) + 1 := hj
    have hk' : k < size + 1 + 1 := hk
    show (pcol (size + 1) (R.length + 2 * E.length) (lines (size + 1) (cols R E)) j k).natAbs ≤ _
    unfold pcol
    have p5 : (2 : Nat) ^ 105 = 2 ^ 100 * 32 := by decide
    have p0 := two_pos 100
    by_cases c1 : j < R.length + 2 * E.length
    · rw [if_pos c1]
      by_cases c2 : k < size + 1
      · rw [if_pos c2, cell_lines c2 (by rw [cols_len]; exact c1)]
        have := cols_bd hR hE bR bE c1 c2
        omega
      · rw [if_neg c2, Int.natAbs_neg]
        have := Prob.sm_abs (n := size + 1) (f := fun i => cell (lines (size + 1) (cols R E)) i j) (X := 2 ^ 100) fun i hi => by
          rw [cell_lines hi (by rw [cols_len]; exact c1)]
          exact Nat.le_of_lt (cols_bd hR hE bR bE c1 hi)
        have h3 : (size + 1) * 2 ^ 100 ≤ 21 * 2 ^ 100 := Nat.mul_le_mul_right _ (by omega)
        omega
    · rw [if_neg c1]
      have u : ∀ a b, (unit a b).natAbs ≤ 1 := fun a b => by unfold unit; split <;> decide
      split
      · have := u (j - (R.length + 2 * E.length)) k
        omega
      · split
        · show (1 : Int).natAbs ≤ _
          have : (1 : Int).natAbs = 1 := rfl
          omega
        · split
          · have : (-1 : Int).natAbs = 1 := rfl
            omega
          · have : (0 : Int).natAbs = 0 := rfl
            omega
  · show ((size + 1 + 1) * 2 ^ 105) ^ (size + 1 + 1) < 2 ^ 4000
    have h1 : (size + 1 + 1) * 2 ^ 105 ≤ 2 ^ 110 := Nat.le_trans (Nat.mul_le_mul_right _ (show size + 1 + 1 ≤ 32 by omega)) (by decide)
    have h2 : ((size + 1 + 1) * 2 ^ 105) ^ (size + 1 + 1) ≤ (2 ^ 110) ^ (size + 1 + 1) := Nat.pow_le_pow_left h1 _
    have h3 : (2 ^ 110) ^ (size + 1 + 1) ≤ (2 ^ 110) ^ 22 := Nat.pow_le_pow_right (Nat.pow_pos (by decide)) (by omega)
    have h4 : ((2 : Nat) ^ 110) ^ 22 = 2 ^ 2420 := by rw [← Nat.pow_mul]
    have h5 : (2 : Nat) ^ 2420 < 2 ^ 4000 := Nat.pow_lt_pow_right (by decide) (by decide)
    omega
end Sx
end
section
set_option maxRecDepth 100000
namespace Ls
open PySem PySem.Spec PyProof.Rows L2
section
variable {P : Program} {w : World} {K : PySem.W.Frag} {mg : Str → Option Value} {base : Heap}
/-- a def of the module with its promise -/
structure Df (P : Program) (w : World) (K : PySem.W.Frag) (mg : Str → Option Value) (base : Heap) (k : Nat) (x : Str) (ps : List Str) (sp : Sp) : Prop where
  ex : ∃ f fd, FnOk P w K mg base CX0 k f fd ps sp ∧ mg x = some (.ref f) ∧ PySem.W.keepIn K (.ref f) = true ∧ Binds K fd ps []
end
theorem pe_df {X : Cx} {k : Nat} {x : Str} {ps : List Str} {sp : Sp} {e : Expr} {es : List Expr} {t : TA} {p pos : Pos} (D : Df X.prog X.w X.K X.mg X.base k x ps sp) (hr : Room k X.A) (hg : Gl X x) (ha : PA X (e :: es) t) (hdb : (x == ("__debug__" : Str)) = false := by decide)
    (hs : starEach (e :: es) X.env = (false, eval e X.env) :: starEach es X.env := by rfl) (hpl : (backTo pos (starEach es X.env)).any (·.1) = false := by rfl) :
    PE X (.Call (.Name x p) (e :: es) [] pos) (tCall sp [] E0 t) := by
  obtain ⟨f, fd, F, hm, hk, hb⟩ := D.ex
  exact pe_call F hr hg hm hk hb .nil pass0 ha hdb hs hpl
/-- a method with its promise -/
structure Md (P : Program) (w : World) (K : PySem.W.Frag) (mg : Str → Option Value) (base : Heap) (C : Addr) (k : Nat) (m : Str) (ps : List Str) (sp : Sp) : Prop where
  ex : ∃ f fd, FnOk P w K mg base CX0 k f fd ps sp ∧ Meth K C m f ∧ Binds K fd ps []
theorem pe_md {X : Cx} {C : Addr} {k : Nat} {m : Str} {ps : List Str} {sp : Sp} {o e : Expr} {es : List Expr} {t : TA} {ta : TE} {apos pos : Pos} {pl : Sem Bool} (D : Md X.prog X.w X.K X.mg X.base C k m ps sp) (c : Cls X.K C) (hr : Room k X.A) (he : PE X o ta) (ha : PA X (e :: es) t)
    (hst : starEach (e :: es) X.env = (false, eval e X.env) :: starEach es X.env := by rfl) (hpl : (backTo pos (starEach es X.env)).any (·.1) = false := by rfl)
    (ht : eval (.Call (.Attribute o m apos) (e :: es) [] pos) X.env = (do
      let ov ← eval o X.env
      standAt apos.atName
      let (f, first) ← holding [ov] (getMethod ov m pl)
      callWith pos f first (backTo pos (starEach (e :: es) X.env)) (backToKw pos (keywordEach [] X.env))) := by rfl) :
    PE X (.Call (.Attribute o m apos) (e :: es) [] pos) (tMeth C m sp [] E0 ta t) := by
  obtain ⟨f, fd, F, hm, hb⟩ := D.ex
  exact pe_meth he c hm F hr hb .nil pass0 ha hst hpl ht
theorem pe_md0 {X : Cx} {C : Addr} {k : Nat} {m : Str} {ps : List Str} {sp : Sp} {o : Expr} {ta : TE} {apos pos : Pos} {pl : Sem Bool} (D : Md X.prog X.w X.K X.mg X.base C k m ps sp) (c : Cls X.K C) (hr : Room k X.A) (he : PE X o ta)
    (ht : eval (.Call (.Attribute o m apos) [] [] pos) X.env = (do
      let ov ← eval o X.env
      standAt apos.atName
      let (f, first) ← holding [ov] (getMethod ov m pl)
      callWith pos f first (backTo pos (starEach [] X.env)) (backToKw pos (keywordEach [] X.env))) := by rfl) :
    PE X (.Call (.Attribute o m apos) [] [] pos) (tMeth C m sp [] E0 ta tNil) := by
  obtain ⟨f, fd, F, hm, hb⟩ := D.ex
  exact pe_meth0 he c hm F hr hb .nil pass0 ht
/-- o.f as a target among others -/
def gFld (K : PySem.W.Frag) (ta : TE) (f : Str) : TG := fun v σ H Q => ta σ H fun x H1 => ∃ a C dx fs, x = .ref a ∧ H1 a = some (.ins C dx fs) ∧ Cls K C ∧ NoAttr K C f ∧ fs.length < 1000 ∧ Q σ (upd H1 a (.ins C dx (putF f v fs)))
theorem pg_fld {X : Cx} {o : Expr} {f : Str} {pos : Pos} {ta : TE} (ha : PE X o ta) : PG X (.Attribute o f pos) (gFld X.K ta f) := by
  refine ⟨fun pins s σ H v u Q I r h => ?_⟩
  rw [PySem.assign_Attribute]
  refine wpAny_bind (wpAny_holding (thn (ha.run pins s σ H _ I h) fun ov s1 ⟨x, H1, I1, r1, a, C, dx, fs, ex, ea, c, n, l, q1⟩ => ?_))
  subst ex
  obtain rfl : ov = Value.ref a := r1
  refine wpAny_bind (wpAny_standAt (wpAny_bind (wpAny_holding (setattr_ok I1 ea c n l r fun s3 I3 => ?_))))
  exact wpAny_release ⟨σ, _, I3, q1⟩

/-! ### rules whose readings name K itself -/
section
variable {X : Cx}
theorem kfld (K : PySem.W.Frag) {e : Expr} {f : Str} {pos : Pos} {ta : TE} (he : PE X e ta) (hb : attributeBase e f X.env (eval e X.env) = eval e X.env := by rfl) (hK : X.K = K := by rfl) : PE X (.Attribute e f pos) (tFld K ta f) := hK ▸ pe_fld he hb
theorem kixL (K : PySem.W.Frag) (hK : X.K = K := by rfl) : IxR X (rIxL K) := hK ▸ ix_list
theorem kixT (K : PySem.W.Frag) (hK : X.K = K := by rfl) : IxR X (rIxT K) := hK ▸ ix_tup
theorem kix (K : PySem.W.Frag) (hK : X.K = K := by rfl) : IxR X (rIx K) := hK ▸ ix_seq
theorem kslL (K : PySem.W.Frag) (hK : X.K = K := by rfl) : SlR X (rSlL K) := hK ▸ sl_list
theorem kslT (K : PySem.W.Frag) (hK : X.K = K := by rfl) : SlR X (rSlT K) := hK ▸ sl_tup
theorem keqD (K : PySem.W.Frag) (hu : X.A.units + 64 < cLine) (hK : X.K = K := by rfl) : OpR X (compareOp .Eq) (rEqD K) := hK ▸ op_eqD hu
theorem kneD (K : PySem.W.Frag) (hu : X.A.units + 64 < cLine) (hK : X.K = K := by rfl) : OpR X (compareOp .NotEq) (rNeD K) := hK ▸ op_neD hu
def rLen (K : PySem.W.Frag) : List V → Hp → VK → Prop := fun xs H Q => ∃ p ys, xs = [.ref p] ∧ (SqL K H p ys ∨ SqT K H p ys) ∧ Q (.int (ys.length : Nat)) H
theorem klen (K : PySem.W.Frag) (hK : X.K = K := by rfl) : CallR X (.builtin "len") (rLen K) := hK ▸ call_len_seq
def rListOf (K : PySem.W.Frag) : List V → Hp → VK → Prop := fun xs H Q => ∃ p ys, xs = [.ref p] ∧ (SqL K H p ys ∨ SqT K H p ys) ∧ ∀ l, H l = none → Q (.ref l) (upd H l (.lst ys))
theorem klist (K : PySem.W.Frag) (hK : X.K = K := by rfl) : CallR X (.type "list") (rListOf K) := hK ▸ call_list_of
def rTupleOf (K : PySem.W.Frag) : List V → Hp → VK → Prop := fun xs H Q => ∃ p ys, xs = [.ref p] ∧ ((SqL K H p ys ∧ ∀ l, H l = none → Q (.ref l) (upd H l (.tup ys))) ∨ (SqT K H p ys ∧ Q (.ref p) H))
theorem ktuple (K : PySem.W.Frag) (hK : X.K = K := by rfl) : CallR X (.type "tuple") (rTupleOf K) := hK ▸ call_tuple_of
theorem ksum (K : PySem.W.Frag) (hc : X.calm = true := by rfl) (hK : X.K = K := by rfl) : CallR X (.builtin "sum") (rSum K) := hK ▸ cr_sum hc
theorem kmax (K : PySem.W.Frag) (hc : X.calm = true := by rfl) (hK : X.K = K := by rfl) : CallR X (.builtin "max") (rMax K) := hK ▸ cr_max hc
theorem kall (K : PySem.W.Frag) (hc : X.calm = true := by rfl) (hK : X.K = K := by rfl) : CallR X (.builtin "all") (rAll K) := hK ▸ cr_all hc
theorem kisi (K : PySem.W.Frag) (hK : X.K = K := by rfl) : CallR X (.builtin "isinstance") (rIsi K) := hK ▸ call_isi
theorem kisiT (K : PySem.W.Frag) (hK : X.K = K := by rfl) : CallR X (.builtin "isinstance") (rIsiT K) := hK ▸ call_isiT
theorem kg_tup (K : PySem.W.Frag) {es : List Expr} {k : Nat} {pos : Pos} {t : TGs} {n : Nat} (h : PGs X es t) (hc : X.calm = true := by rfl) (hn : (assignEach es X.env).length = n := by rfl) (hst : (assignEach es X.env).findIdx? (·.1) = none := by rfl) (hK : X.K = K := by rfl) : PG X (.Tuple es k pos) (gTup K n t) := hK ▸ pg_tup hc h hn hst
theorem kstar (K : PySem.W.Frag) {e : Expr} {es : List Expr} {p : Pos} {te : TE} {t : TA} (he : PE X e te) (hr : PA X es t) (hs : starEach (.Starred e p :: es) X.env = (true, eval e X.env) :: starEach es X.env := by rfl) (hK : X.K = K := by rfl) : PA X (.Starred e p :: es) (StX.tStar K te t) := hK ▸ StX.pa_star he hr hs
theorem kbm (K : PySem.W.Frag) {o : Expr} {es : List Expr} {e : Expr} {m : Str} {T id : String} {r : V → List V → Hp → VK → Prop} {ta : TE} {t : TA} {apos pos : Pos} (h : ∀ hK : X.K = K, PE X (.Call (.Attribute o m apos) (e :: es) [] pos) (tBM X.K T r ta t)) (hK : X.K = K := by rfl) : PE X (.Call (.Attribute o m apos) (e :: es) [] pos) (tBM K T r ta t) := hK ▸ h hK
theorem kfor_tup (K : PySem.W.Frag) {tg l : Expr} {tl : TE} (hl : PE X l tl) (hK : X.K = K := by rfl) : PI X tg l (iTup K tl) := hK ▸ pi_tup hl
theorem kenum (K : PySem.W.Frag) {e : Expr} {ta : TA} {p pos tpos : Pos} {elts : List Expr} {kk : Nat} (hm : X.mg "enumerate" = none) (ha : PA X [e] ta) (hg : Gl X "enumerate" := by rfl) (hs : starEach [e] X.env = [(false, eval e X.env)] := by rfl) (hK : X.K = K := by rfl) :
    PI X (.Tuple elts kk tpos) (.Call (.Name "enumerate" p) [e] [] pos) (iEnum K ta) := hK ▸ pi_enum hg hm ha hs
theorem kzip (K : PySem.W.Frag) {e e2 : Expr} {ta : TA} {p pos tpos : Pos} {elts : List Expr} {kk : Nat} (hm : X.mg "zip" = none) (ha : PA X [e, e2] ta) (hg : Gl X "zip" := by rfl)
    (hs : starEach [e, e2] X.env = (false, eval e X.env) :: starEach [e2] X.env := by rfl) (hpl : (backTo pos (starEach [e2] X.env)).any (·.1) = false := by rfl) (hK : X.K = K := by rfl) :
    PI X (.Tuple elts kk tpos) (.Call (.Name "zip" p) [e, e2] [] pos) (iZip K ta) := hK ▸ pi_zip hg hm ha hs hpl
theorem kfor_list (K : PySem.W.Frag) {tg l : Expr} {tl : TE} (hl : PE X l tl) (hK : X.K = K := by rfl) : PI X tg l (iList K tl) := hK ▸ pi_list hl
end
/-! ### == of lists of whole numbers -/
theorem dp_ints {K : PySem.W.Frag} {H : Hp} : ∀ ns : List Int, DpAll K H (ns.map V.int) (ns.map PyData.int)
  | [] => .nil
  | n :: r => .cons (.int n) (dp_ints r)
theorem lay_ints : ∀ ns : List Int, PyData.canLayAll0 (ns.map PyData.int) = true
  | [] => by simp [PyData.canLayAll0]
  | n :: r => by
    rw [List.map_cons, PyData.canLayAll0, lay_ints r, PyData.canLay0]; rfl
theorem dep_ints : ∀ ns : List Int, PyData.depthAll (ns.map PyData.int) = 0
  | [] => by simp [PyData.depthAll]
  | n :: r => by
    rw [List.map_cons, PyData.depthAll, dep_ints r, PyData.depth]; rfl
theorem shaped_ints (ns : List Int) : SeqAt.shaped (.list (ns.map PyData.int)) = true := by
  unfold SeqAt.shaped
  rw [PyData.canLay0, lay_ints, PyData.depth, dep_ints]; rfl
theorem shapedT_ints (ns : List Int) : SeqAt.shaped (.tuple (ns.map PyData.int)) = true := by
  unfold SeqAt.shaped
  rw [PyData.canLay0, lay_ints, PyData.depth, dep_ints]; rfl
theorem eqv_nil (ns : List Int) : PyData.eqv (.list (ns.map PyData.int)) (.list []) = ns.isEmpty := by
  cases ns with
  | nil => rw [PyData.eqv, List.map_nil, PyData.eqvAll]; rfl
  | cons n r => rw [PyData.eqv, List.map_cons, PyData.eqvAll]; rfl
theorem neD_nil {K : PySem.W.Frag} {H : Hp} {a z : Addr} {ns : List Int} {Q : VK} (ha : SqL K H a (ns.map V.int)) (hz : SqL K H z []) (q : Q (.bl (!ns.isEmpty)) H) : rNeD K (.ref a) (.ref z) H Q :=
  ⟨_, _, .lst ha (dp_ints ns), .lst hz .nil, shaped_ints ns, shaped_ints [], by rw [eqv_nil]; exact q⟩
theorem eqD_nil {K : PySem.W.Frag} {H : Hp} {a z : Addr} {ns : List Int} {Q : VK} (ha : SqL K H a (ns.map V.int)) (hz : SqL K H z []) (q : Q (.bl ns.isEmpty) H) : rEqD K (.ref a) (.ref z) H Q :=
  ⟨_, _, .lst ha (dp_ints ns), .lst hz .nil, shaped_ints ns, shaped_ints [], by rw [eqv_nil]; exact q⟩
/-! ### heaps of which a part is hidden -/
def cut (T : List Addr) (H : Hp) : Hp := fun a => if a ∈ T then none else H a
theorem cut_ne {T : List Addr} {H : Hp} {a : Addr} (h : a ∉ T) : cut T H a = H a := by unfold cut; rw [if_neg h]
theorem cut_in {T : List Addr} {H : Hp} {a : Addr} (h : a ∈ T) : cut T H a = none := by unfold cut; rw [if_pos h]
theorem cut_le {T : List Addr} {H : Hp} {a : Addr} {o : HO} (h : cut T H a = some o) : H a = some o := by
  by_cases q : a ∈ T
  · rw [cut_in q] at h; cases h
  · rw [cut_ne q] at h; exact h
theorem cut_nin {T : List Addr} {H : Hp} {a : Addr} {o : HO} (h : cut T H a = some o) : a ∉ T := fun q => by rw [cut_in q] at h; cases h
theorem cut_nil {H : Hp} : cut [] H = H := by funext a; exact cut_ne (by simp)
theorem cut_same {T : List Addr} {H : Hp} : Same (cut T H) H := fun _ _ h => cut_le h
theorem cut_mono {T : List Addr} {H H' : Hp} (h : Same H H') : Same (cut T H) (cut T H') := fun b o e => by rw [cut_ne (cut_nin e)]; exact h b o (cut_le e)
theorem same_new {H : Hp} {p : Addr} {o : HO} (h : H p = none) : Same H (upd H p o) := fun b x e => by rw [upd_ne (ne_of_none e h)]; exact e
structure Hid where
  T : List Addr
  good : Hp → Prop
  loc : ∀ H H' : Hp, (∀ a ∈ T, H' a = H a) → good H → good H'
  dom : ∀ H, good H → ∀ a ∈ T, H a ≠ none
def Hid.no : Hid := ⟨[], fun _ => True, fun _ _ _ _ => trivial, fun _ _ a h => by simp at h⟩
structure Le (h : Hid) (H H' : Hp) : Prop where
  s : Same (cut h.T H) (cut h.T H')
  g : h.good H'
section
variable {h : Hid} {H H' H1 H2 : Hp} {p : Addr} {o : HO}
theorem Hid.nin (g : h.good H) (e : H p = none) : p ∉ h.T := fun q => h.dom H g p q e
theorem Le.refl (g : h.good H) : Le h H H := ⟨Same.refl _, g⟩
theorem Le.trans (a : Le h H H1) (b : Le h H1 H2) : Le h H H2 := ⟨a.s.trans b.s, b.g⟩
theorem Le.of (g : h.good H) (s : Same H H') : Le h H H' := ⟨cut_mono s, h.loc H H' (fun a ha => by
  cases q : H a with
  | none => exact absurd q (h.dom H g a ha)
  | some o => exact s a o q) g⟩
theorem Le.new (g : h.good H) (e : H p = none) : Le h H (upd H p o) := Le.of g (same_new e)
/-- what was unknown at the beginning may change -/
theorem Le.mut (a : Le h H H1) (g : h.good H) (e : H p = none) : Le h H (upd H1 p o) := by
  have np := Hid.nin g e
  refine ⟨fun b x q => ?_, h.loc H1 _ (fun b hb => upd_ne (fun z => np (z ▸ hb))) a.g⟩
  have nb := cut_nin q
  rw [cut_ne nb, upd_ne (ne_of_none (cut_le q) e), ← cut_ne (H := H1) nb]
  exact a.s b x q
theorem Le.free (a : Le h H H1) (g : h.good H) (e : H1 p = none) : H p = none := by
  have np := Hid.nin a.g e
  cases q : H p with
  | none => rfl
  | some o =>
    have := cut_le (a.s p o (by rw [cut_ne np]; exact q))
    rw [e] at this; cases this
theorem c_new (g : h.good H) (e : H p = none) : cut h.T (upd H p o) p = some o := by rw [cut_ne (Hid.nin g e), upd_same]
theorem c_upd (np : p ∉ h.T) : cut h.T (upd H p o) = upd (cut h.T H) p o := by
  funext b
  by_cases q : b = p
  · subst q; rw [cut_ne np, upd_same, upd_same]
  · rw [upd_ne q]
    by_cases z : b ∈ h.T
    · rw [cut_in z, cut_in z]
    · rw [cut_ne z, cut_ne z, upd_ne q]
theorem sql {K : PySem.W.Frag} {a : Addr} {xs : List V} (s : SqL K (cut h.T H) a xs) : SqL K H a xs := cut_same.seq s
theorem sqt {K : PySem.W.Frag} {a : Addr} {xs : List V} (s : SqT K (cut h.T H) a xs) : SqT K H a xs := by
  rcases s with (e | ⟨o, e⟩) | e
  · exact .inl (.inl (cut_le e))
  · exact .inl (.inr ⟨o, cut_le e⟩)
  · exact .inr e
theorem Same.sqt {K : PySem.W.Frag} {a : Addr} {xs : List V} (e : Same H H') (s : SqT K H a xs) : SqT K H' a xs := by
  rcases s with (q | ⟨o, q⟩) | q
  · exact .inl (.inl (e _ _ q))
  · exact .inl (.inr ⟨o, e _ _ q⟩)
  · exact .inr q
end
/-- one address more hidden -/
theorem cut_cons {T : List Addr} {H : Hp} {D : Addr} {o : HO} : cut (D :: T) (upd H D o) = cut (D :: T) H := by
  funext b
  by_cases q : b ∈ D :: T
  · rw [cut_in q, cut_in q]
  · rw [cut_ne q, cut_ne q, upd_ne (fun z => q (by simp [z]))]
theorem cut_sub {T : List Addr} {H : Hp} {D : Addr} : Same (cut (D :: T) H) (cut T H) := fun b o e => by
  have nb := cut_nin e
  rw [cut_ne (fun q => nb (List.mem_cons_of_mem _ q))]
  exact cut_le e
theorem cut_sub_mono {T : List Addr} {H H' : Hp} {D : Addr} (s : Same (cut T H) (cut T H')) : Same (cut (D :: T) H) (cut (D :: T) H') := fun b o e => by
  have nb := cut_nin e
  have nb' : b ∉ T := fun q => nb (List.mem_cons_of_mem _ q)
  rw [cut_ne nb, ← cut_ne (H := H') nb']
  exact s b o (by rw [cut_ne nb']; exact cut_le e)
theorem cut_add {T : List Addr} {H : Hp} {D : Addr} (e : H D = none) : Same (cut T H) (cut (D :: T) H) := fun b o q => by
  have nb : b ∉ D :: T := fun z => by
    rcases List.mem_cons.mp z with z | z
    · subst z; rw [cut_le q] at e; cases e
    · exact cut_nin q z
  rw [cut_ne nb]; exact cut_le q
theorem cut_both {T : List Addr} {H : Hp} {D b : Addr} {o : HO} (n : b ≠ D) (e : cut T H b = some o) : cut (D :: T) H b = some o := by
  have nb : b ∉ D :: T := fun z => by
    rcases List.mem_cons.mp z with z | z
    · exact n z
    · exact cut_nin e z
  rw [cut_ne nb]; exact cut_le e
/-- what is hidden stands as it is -/
def Hid.frz (T : List Addr) (H0 : Hp) (hd : ∀ a ∈ T, H0 a ≠ none) : Hid := ⟨T, fun H => ∀ a ∈ T, H a = H0 a, fun H H' e g a ha => (e a ha).trans (g a ha), fun H g a ha => by rw [g a ha]; exact hd a ha⟩
def Stab (R : V → Hp → Prop) : Prop := ∀ v H H', Same H H' → R v H → R v H'
/-- a list comprehension without a test, whatever it walks: R i tells the i-th item -/
theorem lc_all {h : Hid} {J : It} {n : Nat} {G : Hp → Prop} {Y : Nat → Hp → V → Hp → Prop} (w : Walk J n G Y) {g : TG} {te : TE} {vs : List Nat} {σ : L2.St} {H1 : Hp} {D : Addr} {Qd : Hp → Prop} (hD : H1 D = none) (g1 : h.good H1) (hn : n < 10000000)
    (R : Nat → V → Hp → Prop) (hR : ∀ i, Stab (R i)) (hG : ∀ H', Same (cut h.T H1) (cut h.T H') → G H')
    (hs : ∀ i x H H', i < n → Le h H1 H → (∃ xs, H D = some (.lst xs)) → Y i H x H' → ∀ Q' : VK, (∀ y H4, Le h H H4 → H4 D = H D → R i y (cut (D :: h.T) H4) → Q' y H4) → g x (wipe σ vs) H' fun σ2 H2 => wipe σ2 vs = wipe σ vs ∧ te σ2 H2 Q')
    (hd : ∀ H' ys, Le h H1 H' → cut h.T H' D = some (.lst ys) → ys.length = n → (∀ i y, ys[i]? = some y → R i y (cut (D :: h.T) H')) → Qd H') :
    ∃ W : Nat → Nat → Hp → Prop, (∃ m, W 0 m (upd H1 D (.lst []))) ∧ ∀ i m H, W i m H →
      (J.stop i H ∧ Qd H) ∨ (J.go i H ∧ ∃ Nx : Hp → Prop, (∀ H', Nx H' → ∃ m', m' < m ∧ W (i + 1) m' H') ∧ ∀ x H', J.yld i H x H' → g x (wipe σ vs) H' fun σ2 H2 => wipe σ2 vs = wipe σ vs ∧ tYes σ2 H2 fun b H3 =>
        if b = true then te σ2 H3 fun y H4 => ∃ acc, H4 D = some (.lst acc) ∧ acc.length < sizeLine ∧ Nx (upd H4 D (.lst (acc ++ [y]))) else Nx H3) := by
  have nD := Hid.nin g1 hD
  refine lc_it w (fun i H => Le h H1 H ∧ ∃ ys : List V, H D = some (.lst ys) ∧ ys.length = i ∧ ∀ k y, ys[k]? = some y → R k y (cut (D :: h.T) H)) ⟨Le.new g1 hD, [], upd_same, rfl, fun k y e => by simp at e⟩ (fun i H _ p => hG H p.1.s) ?_ ?_
  · intro i x H H' hi p yy
    obtain ⟨le, ys, eD, el, hr⟩ := p
    have step := hs i x H H' hi le ⟨ys, eD⟩ yy (fun y H4 => ∃ acc, H4 D = some (.lst acc) ∧ acc.length < sizeLine ∧ (Le h H1 (upd H4 D (.lst (acc ++ [y]))) ∧ ∃ zs : List V, (upd H4 D (.lst (acc ++ [y]))) D = some (.lst zs) ∧ zs.length = i + 1 ∧ ∀ k z, zs[k]? = some z → R k z (cut (D :: h.T) (upd H4 D (.lst (acc ++ [y])))))) fun y H4 le4 e4 r4 => ?_
    · exact step
    · refine ⟨ys, e4.trans eD, ?_, (le.trans le4).mut g1 hD, ys ++ [y], upd_same, by simp [el], fun k z e => ?_⟩
      · rw [el, sizeLine_eq]; omega
      · rw [cut_cons]
        by_cases q : k < ys.length
        · rw [List.getElem?_append_left q] at e
          exact hR k z _ _ (cut_sub_mono le4.s) (hr k z e)
        · rw [List.getElem?_append_right (by omega)] at e
          have : k = i := by
            have := (List.getElem?_eq_some_iff.mp e).1
            simp at this; omega
          subst this
          have e2 : y = z := by
            rw [show k - ys.length = 0 by omega] at e
            exact Option.some.inj e
          rw [← e2]; exact r4
  · intro H p
    obtain ⟨le, ys, eD, el, hr⟩ := p
    exact hd H ys le (by rw [cut_ne nD]; exact eD) el hr
theorem ys_of {α : Type} {n : Nat} {ys : List V} (f : Nat → α) (c : α → V) (hl : ys.length = n) (h : ∀ i y, ys[i]? = some y → y = c (f i)) : ys = ((List.range n).map f).map c := by
  refine List.ext_getElem (by simp [hl]) fun i h1 h2 => ?_
  have := h i ys[i] (List.getElem?_eq_getElem h1)
  rw [this]; simp
/-- .. of whole numbers -/
theorem lc_ints {h : Hid} {J : It} {n : Nat} {G : Hp → Prop} {Y : Nat → Hp → V → Hp → Prop} (w : Walk J n G Y) {g : TG} {te : TE} {vs : List Nat} {σ : L2.St} {H1 : Hp} {D : Addr} {Qd : Hp → Prop} (hD : H1 D = none) (g1 : h.good H1) (hn : n < 10000000)
    (f : Nat → Int) (hG : ∀ H', Same (cut h.T H1) (cut h.T H') → G H')
    (hs : ∀ i x H H', i < n → Le h H1 H → (∃ xs, H D = some (.lst xs)) → Y i H x H' → ∀ Q' : VK, (∀ H4, Le h H H4 → H4 D = H D → Q' (.int (f i)) H4) → g x (wipe σ vs) H' fun σ2 H2 => wipe σ2 vs = wipe σ vs ∧ te σ2 H2 Q')
    (hd : ∀ H', Le h H1 H' → cut h.T H' D = some (.lst (((List.range n).map f).map V.int)) → Qd H') :
    ∃ W : Nat → Nat → Hp → Prop, (∃ m, W 0 m (upd H1 D (.lst []))) ∧ ∀ i m H, W i m H →
      (J.stop i H ∧ Qd H) ∨ (J.go i H ∧ ∃ Nx : Hp → Prop, (∀ H', Nx H' → ∃ m', m' < m ∧ W (i + 1) m' H') ∧ ∀ x H', J.yld i H x H' → g x (wipe σ vs) H' fun σ2 H2 => wipe σ2 vs = wipe σ vs ∧ tYes σ2 H2 fun b H3 =>
        if b = true then te σ2 H3 fun y H4 => ∃ acc, H4 D = some (.lst acc) ∧ acc.length < sizeLine ∧ Nx (upd H4 D (.lst (acc ++ [y]))) else Nx H3) :=
  lc_all w hD g1 hn (fun i y _ => y = .int (f i)) (fun i v H H' _ e => e) hG (fun i x H H' hi le hD y Q' k => hs i x H H' hi le hD y Q' fun H4 a b => k _ H4 a b rfl)
    fun H' ys le e hl hr => hd H' le (by rw [e, ys_of f V.int hl hr])
/-- with a test: f i tells whether the i-th gives, v i what -/
theorem lc_sel {h : Hid} {J : It} {n : Nat} {G : Hp → Prop} {Y : Nat → Hp → V → Hp → Prop} (w : Walk J n G Y) {g : TG} {tt : TT} {te : TE} {vs : List Nat} {σ : L2.St} {H1 : Hp} {D : Addr} {Qd : Hp → Prop} (hD : H1 D = none) (g1 : h.good H1) (hn : n < 10000000)
    (f : Nat → Bool) (v : Nat → V) (hG : ∀ H', Same (cut h.T H1) (cut h.T H') → G H')
    (hs : ∀ i x H H', i < n → Le h H1 H → (∃ xs, H D = some (.lst xs)) → Y i H x H' → ∀ (Q' : VK) (N : Hp → Prop), (∀ H4, Le h H H4 → H4 D = H D → f i = true → Q' (v i) H4) → (∀ H4, Le h H H4 → H4 D = H D → f i = false → N H4) →
      g x (wipe σ vs) H' fun σ2 H2 => wipe σ2 vs = wipe σ vs ∧ tt σ2 H2 fun b H3 => if b = true then te σ2 H3 Q' else N H3)
    (hd : ∀ H', Le h H1 H' → cut h.T H' D = some (.lst (((List.range n).filter f).map v)) → Qd H') :
    ∃ W : Nat → Nat → Hp → Prop, (∃ m, W 0 m (upd H1 D (.lst []))) ∧ ∀ i m H, W i m H →
      (J.stop i H ∧ Qd H) ∨ (J.go i H ∧ ∃ Nx : Hp → Prop, (∀ H', Nx H' → ∃ m', m' < m ∧ W (i + 1) m' H') ∧ ∀ x H', J.yld i H x H' → g x (wipe σ vs) H' fun σ2 H2 => wipe σ2 vs = wipe σ vs ∧ tt σ2 H2 fun b H3 =>
        if b = true then te σ2 H3 fun y H4 => ∃ acc, H4 D = some (.lst acc) ∧ acc.length < sizeLine ∧ Nx (upd H4 D (.lst (acc ++ [y]))) else Nx H3) := by
  have nD := Hid.nin g1 hD
  refine lc_it w (fun i H => Le h H1 H ∧ H D = some (.lst (((List.range i).filter f).map v))) ⟨Le.new g1 hD, upd_same⟩ (fun i H _ p => hG H p.1.s) ?_ ?_
  · intro i x H H' hi p yy
    obtain ⟨le, eD⟩ := p
    have len : (((List.range i).filter f).map v).length ≤ i := by
      rw [List.length_map]
      exact Nat.le_trans (List.length_filter_le _ _) (by simp)
    refine hs i x H H' hi le ⟨_, eD⟩ yy (fun y H4 => ∃ acc, H4 D = some (.lst acc) ∧ acc.length < sizeLine ∧ (Le h H1 (upd H4 D (.lst (acc ++ [y]))) ∧ (upd H4 D (.lst (acc ++ [y]))) D = some (.lst (((List.range (i + 1)).filter f).map v)))) (fun H4 => Le h H1 H4 ∧ H4 D = some (.lst (((List.range (i + 1)).filter f).map v))) (fun H4 le4 e4 hf => ?_) (fun H4 le4 e4 hf => ?_)
    · refine ⟨_, e4.trans eD, by rw [sizeLine_eq]; omega, (le.trans le4).mut g1 hD, ?_⟩
      rw [upd_same, List.range_succ, List.filter_append, List.map_append, List.filter_cons, if_pos hf]; rfl
    · refine ⟨le.trans le4, ?_⟩
      rw [e4, eD, List.range_succ, List.filter_append, List.map_append, List.filter_cons, if_neg (by rw [hf]; decide)]
      simp
  · intro H p
    exact hd H p.1 (by rw [cut_ne nD]; exact p.2)
/-- a list of lists of whole numbers -/
def RowsL (K : PySem.W.Frag) (H : Hp) (a : Addr) (rows : List (List Int)) : Prop :=
  ∃ as : List Addr, SqL K H a (as.map V.ref) ∧ as.length = rows.length ∧ ∀ (i : Nat) (b : Addr) (row : List Int), as[i]? = some b → rows[i]? = some row → SqL K H b (row.map V.int)
theorem RowsL.mono {K : PySem.W.Frag} {H H' : Hp} {a : Addr} {rows : List (List Int)} (s : Same H H') (r : RowsL K H a rows) : RowsL K H' a rows := by
  obtain ⟨as, h1, h2, h3⟩ := r
  exact ⟨as, s.seq h1, h2, fun i b row e1 e2 => s.seq (h3 i b row e1 e2)⟩
/-- from what a comprehension or a loop made -/
theorem RowsL.of {K : PySem.W.Frag} {H : Hp} {a : Addr} {n : Nat} {ys : List V} (f : Nat → List Int) (e : SqL K H a ys) (hl : ys.length = n) (h : ∀ i y, ys[i]? = some y → ∃ b, y = .ref b ∧ SqL K H b ((f i).map V.int)) : RowsL K H a ((List.range n).map f) := by
  let adr : V → Addr := fun v => match v with | .ref b => b | _ => 0
  have e1 : ys = (ys.map adr).map V.ref := by
    refine List.ext_getElem (by simp) fun i h1 h2 => ?_
    obtain ⟨b, eb, _⟩ := h i ys[i] (List.getElem?_eq_getElem h1)
    simp [adr, eb]
  refine ⟨ys.map adr, by rw [← e1]; exact e, by simp [hl], fun i b row q1 q2 => ?_⟩
  rw [List.getElem?_map] at q1
  cases q : ys[i]? with
  | none => rw [q] at q1; cases q1
  | some y =>
    obtain ⟨b', eb, hb⟩ := h i y q
    rw [q] at q1
    have q3 : adr y = b := Option.some.inj q1
    rw [eb] at q3
    have q4 : b' = b := q3
    subst q4
    have hi : i < n := by rw [← hl]; exact (List.getElem?_eq_some_iff.mp q).1
    have : f i = row := by
      rw [List.getElem?_map, List.getElem?_range hi] at q2
      exact Option.some.inj q2
    rw [← this]; exact hb
end Ls
end
section
set_option maxRecDepth 100000
namespace Ls
open PySem PySem.Spec PyProof.Rows L2
def topS (i : Nat) : Stmt := PySem.Challenge.pw_lowersteps_k36_whole_rows_parted_or_canc.main.body.getD i (.Pass ⟨0, 0, 0, 0⟩)
abbrev s_divisor_of : Stmt := topS 1
theorem sc_divisor_of : FnScope ["several", "found", "number", "left"] ["several"] (defScope s_divisor_of) := ⟨rfl, rfl, rfl, by decide +kernel, rfl, by decide +kernel, by decide +kernel⟩
abbrev s_marked_rows : Stmt := topS 2
theorem sc_marked_rows : FnScope ["several", "found", "index", "row", "marks", "other"] ["several"] (defScope s_marked_rows) := ⟨rfl, rfl, rfl, by decide +kernel, rfl, by decide +kernel, by decide +kernel⟩
abbrev s_Table___init__ : Stmt := inClass (topS 3) 0
theorem sc_Table___init__ : FnScope ["self", "several", "sums", "index", "spot", "row"] ["self", "several"] (defScope s_Table___init__) := ⟨rfl, rfl, rfl, by decide +kernel, rfl, by decide +kernel, by decide +kernel⟩
abbrev s_Table_entering : Stmt := inClass (topS 3) 1
theorem sc_Table_entering : FnScope ["self", "several", "spot"] ["self"] (defScope s_Table_entering) := ⟨rfl, rfl, rfl, by decide +kernel, rfl, by decide +kernel, by decide +kernel⟩
abbrev s_Table_is_ahead : Stmt := inClass (topS 3) 2
theorem sc_Table_is_ahead : FnScope ["self", "spot", "one", "other", "mine", "others"] ["self", "spot", "one", "other"] (defScope s_Table_is_ahead) := ⟨rfl, rfl, rfl, by decide +kernel, rfl, by decide +kernel, by decide +kernel⟩
abbrev s_Table_leaving : Stmt := inClass (topS 3) 3
theorem sc_Table_leaving : FnScope ["self", "spot", "found", "index", "row"] ["self", "spot"] (defScope s_Table_leaving) := ⟨rfl, rfl, rfl, by decide +kernel, rfl, by decide +kernel, by decide +kernel⟩
abbrev s_Table_without : Stmt := inClass (topS 3) 4
theorem sc_Table_without : FnScope ["self", "row", "pivot", "spot", "item", "other"] ["self", "row", "pivot", "spot"] (defScope s_Table_without) := ⟨rfl, rfl, rfl, by decide +kernel, rfl, by decide +kernel, by decide +kernel⟩
abbrev s_Table_choose : Stmt := inClass (topS 3) 5
theorem sc_Table_choose : FnScope ["self", "spot", "here", "pivot", "rows", "index", "row"] ["self", "spot"] (defScope s_Table_choose) := ⟨rfl, rfl, rfl, by decide +kernel, rfl, by decide +kernel, by decide +kernel⟩
abbrev s_Table_lead : Stmt := inClass (topS 3) 6
theorem sc_Table_lead : FnScope ["self", "spot"] ["self"] (defScope s_Table_lead) := ⟨rfl, rfl, rfl, by decide +kernel, rfl, by decide +kernel, by decide +kernel⟩
abbrev s_numbers_in : Stmt := topS 4
theorem sc_numbers_in : FnScope ["table", "several", "least", "lack", "number"] ["table"] (defScope s_numbers_in) := ⟨rfl, rfl, rfl, by decide +kernel, rfl, by decide +kernel, by decide +kernel⟩
abbrev s_times_in : Stmt := topS 5
theorem sc_times_in : FnScope ["table", "known", "least", "spot", "row"] ["table"] (defScope s_times_in) := ⟨rfl, rfl, rfl, by decide +kernel, rfl, by decide +kernel, by decide +kernel⟩
abbrev s_parted_beside : Stmt := topS 6
theorem sc_parted_beside : FnScope ["rows", "even", "columns", "table", "times", "many", "ups", "downs", "row", "line", "up", "down", "number"] ["rows", "even"] (defScope s_parted_beside) := ⟨rfl, rfl, rfl, by decide +kernel, rfl, by decide +kernel, by decide +kernel⟩
abbrev s_parted : Stmt := topS 7
theorem sc_parted : FnScope ["rows", "told"] ["rows"] (defScope s_parted) := ⟨rfl, rfl, rfl, by decide +kernel, rfl, by decide +kernel, by decide +kernel⟩
abbrev s_law_begun : Stmt := topS 11
theorem sc_law_begun : FnScope ["script", "large", "grain"] ["script"] (defScope s_law_begun) := ⟨rfl, rfl, rfl, by decide +kernel, rfl, by decide +kernel, by decide +kernel⟩
abbrev s_law_blend : Stmt := topS 12
theorem sc_law_blend : FnScope ["tape", "great", "turn", "found", "blended", "grain"] ["tape"] (defScope s_law_blend) := ⟨rfl, rfl, rfl, by decide +kernel, rfl, by decide +kernel, by decide +kernel⟩
abbrev s_law_draw : Stmt := topS 13
theorem sc_law_draw : FnScope ["tape", "size", "found"] ["tape", "size"] (defScope s_law_draw) := ⟨rfl, rfl, rfl, by decide +kernel, rfl, by decide +kernel, by decide +kernel⟩
abbrev s_law_pick : Stmt := topS 14
theorem sc_law_pick : FnScope ["tape", "several"] ["tape", "several"] (defScope s_law_pick) := ⟨rfl, rfl, rfl, by decide +kernel, rfl, by decide +kernel, by decide +kernel⟩
abbrev s_law_shuffled : Stmt := topS 15
theorem sc_law_shuffled : FnScope ["tape", "several", "left", "found"] ["tape", "several"] (defScope s_law_shuffled) := ⟨rfl, rfl, rfl, by decide +kernel, rfl, by decide +kernel, by decide +kernel⟩
abbrev s_law_is_pair : Stmt := topS 16
theorem sc_law_is_pair : FnScope ["thing", "word", "size"] ["thing", "word", "size"] (defScope s_law_is_pair) := ⟨rfl, rfl, rfl, by decide +kernel, rfl, by decide +kernel, by decide +kernel⟩
abbrev s_law_dot : Stmt := topS 17
theorem sc_law_dot : FnScope ["row", "numbers", "item", "number"] ["row", "numbers"] (defScope s_law_dot) := ⟨rfl, rfl, rfl, by decide +kernel, rfl, by decide +kernel, by decide +kernel⟩
abbrev s_law_sums : Stmt := topS 18
theorem sc_law_sums : FnScope ["rows", "counts", "size", "place", "row", "count"] ["rows", "counts", "size"] (defScope s_law_sums) := ⟨rfl, rfl, rfl, by decide +kernel, rfl, by decide +kernel, by decide +kernel⟩
abbrev s_law_are_numbers : Stmt := topS 19
theorem sc_law_are_numbers : FnScope ["thing", "size", "item"] ["thing", "size"] (defScope s_law_are_numbers) := ⟨rfl, rfl, rfl, by decide +kernel, rfl, by decide +kernel, by decide +kernel⟩
abbrev s_law_is_told : Stmt := topS 20
theorem sc_law_is_told : FnScope ["rows", "even", "size", "told", "others", "sums", "item", "count", "one", "other", "row"] ["rows", "even", "size", "told", "others"] (defScope s_law_is_told) := ⟨rfl, rfl, rfl, by decide +kernel, rfl, by decide +kernel, by decide +kernel⟩
abbrev s_law_rows : Stmt := topS 21
theorem sc_law_rows : FnScope ["tape", "many", "size", "found", "way", "top", "sums", "line", "row", "place", "item"] ["tape", "many", "size"] (defScope s_law_rows) := ⟨rfl, rfl, rfl, by decide +kernel, rfl, by decide +kernel, by decide +kernel⟩
abbrev s_law_small_right : Stmt := topS 22
theorem sc_law_small_right : FnScope ["rows", "size", "told", "counts", "row", "fine", "some", "item"] ["rows", "size", "told"] (defScope s_law_small_right) := ⟨rfl, rfl, rfl, by decide +kernel, rfl, by decide +kernel, by decide +kernel⟩
abbrev s_law : Stmt := topS 23
theorem sc_law : FnScope ["script", "tape", "lap", "size", "less", "few", "tall", "wide", "rows", "even", "told", "beside", "row", "place"] ["script"] (defScope s_law) := ⟨rfl, rfl, rfl, by decide +kernel, rfl, by decide +kernel, by decide +kernel⟩
/-- the built-in names that the text does not bind -/
structure Bi (mg : Str → Option Value) : Prop where
  b_len : mg "len" = none
  b_abs : mg "abs" = none
  b_sum : mg "sum" = none
  b_max : mg "max" = none
  b_min : mg "min" = none
  b_int : mg "int" = none
  b_list : mg "list" = none
  b_tuple : mg "tuple" = none
  b_range : mg "range" = none
  b_zip : mg "zip" = none
  b_enumerate : mg "enumerate" = none
  b_isinstance : mg "isinstance" = none
  b_str : mg "str" = none
  b_bool : mg "bool" = none
end Ls
end
section
set_option maxRecDepth 100000
namespace Ls
open PySem PySem.Spec PyProof.Rows L2
open Sx (cell Shape without newRow chooseT LeaveT gcdL ind markedRow marked)
section
variable {P : Program} {w : World} {K : PySem.W.Frag} {mg : Str → Option Value} {base : Heap}
theorem ints_at {ns : List Int} {i : Nat} {y : V} (h : (ns.map V.int)[i]? = some y) : ∃ z, ns[i]? = some z ∧ y = .int z := by
  rw [List.getElem?_map] at h
  cases e : ns[i]? with
  | none => rw [e] at h; cases h
  | some z => rw [e] at h; exact ⟨z, rfl, (Option.some.inj h).symm⟩
theorem take_more {α : Type} {l : List α} {i : Nat} {x : α} (h : l[i]? = some x) : l.take (i + 1) = l.take i ++ [x] := by
  rw [List.take_add_one, h]; rfl
def spDivisor (K : PySem.W.Frag) : Sp := fun vs H Q _ => ∃ (a : Addr) (ns : List Int), vs = [.ref a] ∧ SqL K H a (ns.map V.int) ∧ Q (.int (gcdL ns : Nat)) H
theorem ok_divisor {f : Addr} {fd : FuncData} (F : Fun K "divisor_of" "divisor_of" s_divisor_of f fd) (T : Bi mg) : FnOk P w K mg base CX0 1 f fd ["several"] (spDivisor K) := by
  refine F.ok sc_divisor_of (fun vs H Q E h => ?_) (fun cdv A outer s H vs Q E hr h => ?_)
  · obtain ⟨a, ns, rfl, _⟩ := h
    rfl
  · obtain ⟨a, ns, rfl, hS, k⟩ := h
    refine ⟨_, (pss_cons (ps_set (i := 1) sc_divisor_of.nd rfl (Or.inl rfl) pe_int)
      (pss_cons (ps_for PassesOwn.never rfl (pi_list (pv 0)) (pg_name (i := 2) sc_divisor_of.nd rfl (Or.inl rfl)) (pss_cons (ps_set (i := 3) sc_divisor_of.nd rfl (Or.inl rfl) (pe_callB call_abs (by rfl) T.b_abs (by decide +kernel) (pa_cons (pv 2) pa_nil)))
      (pss_one (ps_while PassesOwn.never (pt_cmpR op_ne (pv 3) pe_int (nomark _)) (pss_one (ps_par (i := 1) (j := 3) (by rfl) sc_divisor_of.nd rfl rfl (by decide) rfl rfl (pa_cons (pv 3) (pa_cons (pe_op op_modN (pv 1) (pv 3)) pa_nil)) (by rfl)))))))
      (pss_one (ps_ret (pv 1))))), ?_⟩
    refine ⟨_, rfl, a, rfl, ⟨_, hS⟩, for_list (K := K) (a := a) (xs := ns.map V.int) (fun i σ H2 => ∃ v2 v3, σ = [some (.ref a), some (.int (gcdL (ns.take i) : Nat)), v2, v3] ∧ H2 = H)
      ⟨none, none, rfl, rfl⟩ (fun i σ H2 _ ⟨_, _, _, e⟩ => e ▸ hS) ?_ ?_⟩
    · rintro i y σ H2 hi ⟨v2, v3, rfl, rfl⟩
      obtain ⟨z, hz, rfl⟩ := ints_at hi
      refine ⟨_, rfl, _, rfl, ?_⟩
      have eg : Nat.gcd (gcdL (ns.take i)) z.natAbs = gcdL (ns.take (i + 1)) := by
        rw [take_more hz]; unfold gcdL; rw [List.foldl_append]; rfl
      have ez : (if z < 0 then -z else z) = (z.natAbs : Int) := by split <;> omega
      rw [ez]
      refine ⟨fun m σ' H' => ∃ (p q : Nat), σ' = [some (.ref a), some (.int (p : Int)), some (.int z), some (.int (q : Int))] ∧ m = q ∧ Nat.gcd p q = gcdL (ns.take (i + 1)) ∧ H' = H2, ⟨z.natAbs, gcdL (ns.take i), z.natAbs, rfl, rfl, eg, rfl⟩, ?_⟩
      rintro m σ' H' ⟨p, q, rfl, em, e, rfl⟩
      refine ⟨_, rfl, rfl, _, rfl, ?_⟩
      by_cases c : q = 0
      · subst c
        refine iteF ?_
        rw [Nat.gcd_zero_right] at e
        subst e
        exact ⟨_, _, rfl, rfl⟩
      · have c' : (!decide (V.int (q : Int) = V.int 0)) = true := by
          have : ¬ V.int (q : Int) = V.int 0 := fun z => c (by have := V.int.inj z; omega)
          rw [decide_eq_false this]; rfl
        rw [c']
        refine iteT ⟨fun σ2 H2' => ∃ (p' q' : Nat), σ2 = [some (.ref a), some (.int (p' : Int)), some (.int z), some (.int (q' : Int))] ∧ q' < m ∧ Nat.gcd p' q' = gcdL (ns.take (i + 1)) ∧ H2' = H', fun σ2 H2' ⟨p', q', e1, l, e2, e3⟩ => ⟨q', l, p', q', e1, rfl, e2, e3⟩, ?_⟩
        refine ⟨_, rfl, _, rfl, _, rfl, _, _, rfl, rfl, by omega, _, _, rfl, ?_⟩
        refine ⟨q, p % q, ?_, em ▸ Nat.mod_lt _ (by omega), ?_, rfl⟩
        · show [some (V.ref a), some (V.int (q : Int)), some (V.int z), some (V.int ((p : Int).fmod (q : Int)))] = _
          rw [Int.fmod_eq_emod_of_nonneg (p : Int) (show (0 : Int) ≤ (q : Int) by omega)]
          rfl
        · rw [← e, Nat.gcd_comm p q, Nat.gcd_rec q p, Nat.gcd_comm]
    · rintro σ H2 ⟨v2, v3, rfl, rfl⟩
      rw [List.length_map, List.take_length]
      exact ⟨_, rfl, k⟩
end
end Ls
end
section
set_option maxRecDepth 100000
namespace Ls
open PySem PySem.Spec PyProof.Rows L2
open Sx (cell Shape without newRow chooseT LeaveT gcdL ind markedRow marked)
section
variable {P : Program} {w : World} {K : PySem.W.Frag} {mg : Str → Option Value} {base : Heap}
theorem ind_if {x y : Int} {b : Bool} (h : x = y ↔ b = true) : (if decide (V.int x = V.int y) = true then (1 : Int) else 0) = ind b := by
  unfold ind
  by_cases c : x = y
  · subst c
    rw [if_pos (by simp), if_pos (h.mp rfl)]
  · rw [if_neg (by simp [c]), if_neg (fun q => c (h.mpr q))]
def spMarked (K : PySem.W.Frag) : Sp := fun vs H Q _ => ∃ (h : Hid) (a : Addr) (rows : List (List Int)), vs = [.ref a] ∧ h.good H ∧ RowsL K (cut h.T H) a rows ∧ 0 < rows.length ∧ rows.length < 1000 ∧ (∀ row ∈ rows, row.length < 10000) ∧
  ∀ p H', Le h H H' → H p = none → RowsL K (cut h.T H') p (marked rows) → Q (.ref p) H'
theorem ok_marked {f : Addr} {fd : FuncData} (F : Fun K "marked_rows" "marked_rows" s_marked_rows f fd) (T : Bi mg) : FnOk P w K mg base CX0 1 f fd ["several"] (spMarked K) := by
  refine F.ok sc_marked_rows (fun vs H Q E h => ?_) (fun cdv A outer s H vs Q E hr h => ?_)
  · obtain ⟨_, a, ns, rfl, _⟩ := h
    rfl
  · obtain ⟨h, a, rows, rfl, g, hR, h0, hn, hl, k⟩ := h
    refine ⟨_, (pss_cons (ps_set (i := 1) sc_marked_rows.nd rfl (Or.inl rfl) (pe_lst pa_nil))
      (pss_cons (ps_for PassesOwn.never rfl (pi_enum (by rfl) T.b_enumerate (pa_cons (pv 0) pa_nil)) (pg_tup rfl (pgs_cons (pg_name (i := 2) sc_marked_rows.nd rfl (by first | exact Or.inl rfl | exact Or.inr rfl)) (pgs_cons (pg_name (i := 3) sc_marked_rows.nd rfl (Or.inl rfl)) pgs_nil))) (pss_cons (ps_setLc (i := 4) (own := [("other", 5)]) (g := gName 5) (tt := tYes) rfl sc_marked_rows.nd rfl rfl (sw_true rfl rfl rfl (by decide +kernel)) (pi_range1 (by rfl) T.b_range (pa_cons (pe_callB call_len_seq (by rfl) T.b_len (by decide +kernel) (pa_cons (pv 0) pa_nil)) pa_nil)) (blkOk_by (own := [("other", 5)]) (N := ["several", "found", "index", "row", "marks", "other"]) (sc := defScope s_marked_rows) (by decide +kernel)) (fun _ _ _ _ _ => (pg_name (i := 5) sc_marked_rows.nd rfl (Or.inl rfl))) (fun _ _ _ _ _ => pts_nil) (fun _ _ _ _ _ => (pe_callTy call_int1 (by rfl) T.b_int (by decide +kernel) (pa_cons (pe_cmpR op_eq (pv 2) (pv 5) (nomark _)) pa_nil))))
      (pss_one (ps_expr (pe_bm PySem.F.plainAttrs_list PySem.F.slot_list_append PySem.F.type_list_append mt_append (pv 1) (pa_cons (pe_lst (StX.pa_star (pv 3) (StX.pa_star (pv 4) (pa_cons (pe_callTy call_int1 (by rfl) T.b_int (by decide +kernel) (pa_cons (pe_cmpR op_eq (pv 2) (pe_op op_sub (pe_callB call_len_seq (by rfl) T.b_len (by decide +kernel) (pa_cons (pv 0) pa_nil)) pe_int) (nomark _)) pa_nil)) pa_nil)))) pa_nil))))))
      (pss_one (ps_ret (pv 1))))), ?_⟩
    obtain ⟨as, hA, hal, hrow⟩ := id hR
    refine ⟨Nat.zero_le _, fun o no => ?_⟩
    have no' := Hid.nin g no
    have le0 : Le h H (upd H o (.lst [])) := Le.new g no
    refine ⟨_, rfl, a, as.map V.ref, rfl, sql (le0.s.seq hA), for_it walk_enum (fun i σ H2 => ∃ v2 v3 v4, σ = [some (.ref a), some (.ref o), v2, v3, v4, none] ∧ Le h H H2 ∧ ∃ ys : List V, H2 o = some (.lst ys) ∧ ys.length = i ∧
        ∀ k y, ys[k]? = some y → ∃ b, y = .ref b ∧ SqL K (cut (o :: h.T) H2) b ((markedRow rows.length k (rows.getD k [])).map V.int))
      ⟨none, none, none, rfl, le0, [], upd_same, rfl, fun k y e => by simp at e⟩ (fun i σ H2 _ ⟨_, _, _, _, le, _⟩ => sql (le.s.seq hA)) ?_ ?_⟩
    · rintro i x σ H2 H2' hi ⟨v2, v3, v4, rfl, le, ys, eo, el, hys⟩ ⟨T1, x1, x2, rfl, nT, rfl, e1, e2⟩
      rw [List.length_map] at hi
      have e1' : V.int (i : Int) = x1 := Option.some.inj e1
      subst e1'
      have hx2 : x2 = .ref as[i] := by
        have e2 : (as.map V.ref)[i]? = some x2 := e2
        rw [List.getElem?_map, List.getElem?_eq_getElem hi] at e2
        exact (Option.some.inj e2).symm
      subst hx2
      have hir : i < rows.length := by omega
      have le1 : Le h H (upd H2 T1 (.tup [.int (i : Int), .ref as[i]])) := le.trans (Le.new le.g nT)
      have noT : o ≠ T1 := ne_of_none eo nT
      refine ⟨T1, _, rfl, .inl (.inl upd_same), rfl, .int (i : Int), [.ref as[i]], rfl, .ref as[i], [], rfl, rfl, ?_⟩
      refine ⟨_, rfl, a, as.map V.ref, rfl, .inl (sql (le1.s.seq hA)), _, rfl, by omega, by rw [List.length_map]; omega, ?_⟩
      rw [List.length_map, hal, Int.toNat_natCast]
      refine fun M nM => lc_ints (h := h) (walk_range (lo := 0) (n := rows.length)) nM le1.g (by omega) (fun j => ind (i == j)) (fun _ _ => trivial) ?_ ?_
      · rintro j x H3 H3' hj le3 _ ⟨rfl, rfl⟩ Q' kk
        refine ⟨rfl, _, rfl, _, rfl, rfl, .inr ⟨_, rfl, ?_⟩⟩
        have := kk H3' (Le.refl le3.g) rfl
        have e3 : (if decide (V.int (i : Int) = V.int (0 + (j : Int))) = true then (1 : Int) else 0) = ind (i == j) := ind_if (by rw [beq_iff_eq]; omega)
        rw [e3]; exact this
      · intro H4 le4 eM
        have le5 := le1.trans le4
        have hrw : SqL K (cut h.T H4) as[i] (rows[i].map V.int) := le5.s.seq (hrow i _ _ (List.getElem?_eq_getElem hi) (List.getElem?_eq_getElem hir))
        have eo4 : H4 o = some (.lst ys) := by
          have : cut h.T (upd H2 T1 (.tup [.int (i : Int), .ref as[i]])) o = some (.lst ys) := by rw [cut_ne no', upd_ne noT]; exact eo
          exact cut_le (le4.s _ _ this)
        refine ⟨_, rfl, .inl ⟨rfl, _, .inl (.inl eo4)⟩, ?_⟩
        refine ⟨.ref as[i], rfl, as[i], rows[i].map V.int, rfl, .inr (sql hrw), ?_⟩
        refine ⟨.ref M, rfl, M, _, rfl, .inr (.inl (.inl (cut_le eM))), ?_⟩
        refine ⟨.int (i : Int), rfl, .ref a, rfl, a, as.map V.ref, rfl, .inl (sql (le5.s.seq hA)), _, _, rfl, rfl, rfl, .inr ⟨_, rfl, ?_⟩⟩
        rw [List.length_map, hal]
        have e3 : (if decide (V.int (i : Int) = V.int ((rows.length : Int) - 1)) = true then (1 : Int) else 0) = ind (i == rows.length - 1) := ind_if (by rw [beq_iff_eq]; omega)
        rw [e3]
        have hrl : rows[i].length < 10000 := hl _ (List.getElem_mem hir)
        refine ⟨by simp; rw [sizeLine_eq]; omega, fun N nN => ?_⟩
        have noN : o ≠ N := ne_of_none eo4 nN
        refine ⟨o, ys, _, rfl, rfl, by rw [upd_ne noN]; exact eo4, by rw [sizeLine_eq]; omega, ?_⟩
        have le6 : Le h H (upd H4 N (.lst (rows[i].map V.int ++ (((List.range rows.length).map (fun j => ind (i == j))).map V.int ++ [V.int (ind (i == rows.length - 1))])))) := le5.trans (Le.new le5.g nN)
        refine ⟨_, _, _, rfl, le6.mut g no, ys ++ [.ref N], upd_same, by simp [el], fun k y e => ?_⟩
        rw [cut_cons]
        by_cases q : k < ys.length
        · rw [List.getElem?_append_left q] at e
          obtain ⟨b, eb, hb⟩ := hys k y e
          refine ⟨b, eb, (cut_sub_mono ?_ : Same (cut (o :: h.T) H2) _).seq hb⟩
          exact (((Le.new le.g nT).trans le4).trans (Le.new le5.g nN)).s
        · rw [List.getElem?_append_right (by omega)] at e
          have hk : k = i := by
            have := (List.getElem?_eq_some_iff.mp e).1
            simp at this; omega
          subst hk
          have e5 : V.ref N = y := by
            rw [show k - ys.length = 0 by omega] at e
            exact Option.some.inj e
          refine ⟨N, e5.symm, .inl (.inl ?_)⟩
          rw [cut_ne (by
            intro z
            rcases List.mem_cons.mp z with z | z
            · exact noN z.symm
            · exact Hid.nin le5.g nN z), upd_same]
          have : rows.getD k [] = rows[k] := by simp [hir]
          rw [this]
          unfold markedRow
          simp
    · rintro σ H2 ⟨v2, v3, v4, rfl, le, ys, eo, el, hys⟩
      rw [List.length_map, hal] at el
      refine ⟨_, rfl, k o H2 le no ?_⟩
      refine RowsL.of _ (.inl (.inl (by rw [cut_ne no']; exact eo))) el fun i y e => ?_
      obtain ⟨b, eb, hb⟩ := hys i y e
      exact ⟨b, eb, cut_sub.seq hb⟩
end
end Ls
end
section
set_option maxRecDepth 100000
namespace Ls
open PySem PySem.Spec PyProof.Rows L2
open Sx (cell Shape without newRow chooseT LeaveT gcdL ind markedRow marked)
/-! ### the table's object -/
abbrev TS := Sx.TS
def tabFs (n : Int) (r c l : Addr) (d : Int) : List (Str × V) := [("many", .int n), ("rows", .ref r), ("chosen", .ref c), ("lacks", .ref l), ("below", .int d)]
theorem tf_many {n : Int} {r c l : Addr} {d : Int} : (tabFs n r c l d).lookup ("many" : Str) = some (.int n) := rfl
theorem tf_rows {n : Int} {r c l : Addr} {d : Int} : (tabFs n r c l d).lookup ("rows" : Str) = some (.ref r) := rfl
theorem tf_chosen {n : Int} {r c l : Addr} {d : Int} : (tabFs n r c l d).lookup ("chosen" : Str) = some (.ref c) := rfl
theorem tf_lacks {n : Int} {r c l : Addr} {d : Int} : (tabFs n r c l d).lookup ("lacks" : Str) = some (.ref l) := rfl
theorem tf_below {n : Int} {r c l : Addr} {d : Int} : (tabFs n r c l d).lookup ("below" : Str) = some (.int d) := rfl
theorem tp_rows {n : Int} {r c l x : Addr} {d : Int} : putF "rows" (.ref x) (tabFs n r c l d) = tabFs n x c l d := rfl
theorem tp_lacks {n : Int} {r c l x : Addr} {d : Int} : putF "lacks" (.ref x) (tabFs n r c l d) = tabFs n r c x d := rfl
theorem tp_below {n : Int} {r c l : Addr} {d x : Int} : putF "below" (.int x) (tabFs n r c l d) = tabFs n r c l x := rfl
/-- a Table stands at p, its list of what is chosen at cc -/
structure TabAt (K : PySem.W.Frag) (C : Addr) (H : Hp) (p cc : Addr) (t : TS) : Prop where
  ob : ∃ dx r l, H p = some (.ins C dx (tabFs (t.many : Int) r cc l t.below)) ∧ RowsL K (cut [p, cc] H) r t.rows ∧ SqL K (cut [p, cc] H) l (t.lacks.map V.int)
  ch : H cc = some (.lst (t.chosen.map V.int))
structure TT (K : PySem.W.Frag) (mg : Str → Option Value) (C : Addr) : Prop extends Bi mg where
  cl : Cls K C
  n_many : NoAttr K C "many"
  n_rows : NoAttr K C "rows"
  n_chosen : NoAttr K C "chosen"
  n_lacks : NoAttr K C "lacks"
  n_below : NoAttr K C "below"
section
variable {P : Program} {w : World} {K : PySem.W.Frag} {mg : Str → Option Value} {base : Heap} {C : Addr}
theorem TabAt.le {H H' : Hp} {p cc : Addr} {t : TS} (a : TabAt K C H p cc t) (s : Same H H') : TabAt K C H' p cc t := by
  obtain ⟨⟨dx, r, l, e1, e2, e3⟩, e4⟩ := a
  exact ⟨⟨dx, r, l, s _ _ e1, e2.mono (cut_mono s), (cut_mono s).seq e3⟩, s _ _ e4⟩
theorem int_at {ns : List Int} {i : Nat} (hi : i < ns.length) : atI (ns.map V.int) (i : Int) = some (.int (ns.getD i 0)) := by
  have : (ns.map V.int)[i]? = some (.int (ns.getD i 0)) := by simp [hi]
  exact atI_nat this
theorem RowsL.at {H : Hp} {a : Addr} {rows : List (List Int)} (r : RowsL K H a rows) {i : Nat} (hi : i < rows.length) : ∃ (b : Addr) (xs : List V), SqL K H a xs ∧ xs.length = rows.length ∧ atI xs (i : Int) = some (.ref b) ∧ SqL K H b ((rows.getD i []).map V.int) := by
  obtain ⟨as, h1, h2, h3⟩ := r
  have hi' : i < as.length := by omega
  refine ⟨as[i], as.map V.ref, h1, by simp [h2], atI_nat (by simp [hi']), ?_⟩
  have := h3 i as[i] rows[i] (List.getElem?_eq_getElem hi') (List.getElem?_eq_getElem hi)
  rw [show rows.getD i [] = rows[i] by simp [hi]]
  exact this
/-! ### entering -/
def spEnter (K : PySem.W.Frag) (C : Addr) : Sp := fun vs H Q _ => ∃ (p cc : Addr) (t : TS), vs = [.ref p] ∧ TabAt K C H p cc t ∧ t.many < 1000 ∧ t.many ≤ t.lacks.length ∧
  ((∀ j, j < t.many → 0 ≤ t.lacks.getD j 0) → ∀ H', Same H H' → Q .non H') ∧
  (∀ s, s < t.many → t.lacks.getD s 0 < 0 → (∀ j, j < s → 0 ≤ t.lacks.getD j 0) → ∀ H', Same H H' → Q (.int (s : Int)) H')
theorem ok_enter {f : Addr} {fd : FuncData} (F : Fun K "entering" "Table.entering" s_Table_entering f fd) (T : TT K mg C) : FnOk P w K mg base CX0 1 f fd ["self"] (spEnter K C) := by
  refine F.ok sc_Table_entering (fun vs H Q E h => ?_) (fun cdv A outer s H vs Q E hr h => ?_)
  · obtain ⟨p, cc, t, rfl, _⟩ := h
    rfl
  · obtain ⟨p, cc, t, rfl, tab, hn, hl, k0, k1⟩ := h
    refine ⟨_, (pss_cons (ps_setLc (i := 1) (own := [("spot", 2)]) (g := gName 2) (tt := _) rfl sc_Table_entering.nd rfl rfl (sw_true rfl rfl rfl (by decide +kernel)) (pi_range1 (by rfl) T.b_range (pa_cons (kfld K (pv 0)) pa_nil)) (blkOk_by (own := [("spot", 2)]) (N := ["self", "several", "spot"]) (sc := defScope s_Table_entering) (by decide +kernel)) (fun _ _ _ _ _ => (pg_name (i := 2) sc_Table_entering.nd rfl (Or.inl rfl))) (fun _ _ _ _ _ => (by exact (pts_one (pt_cmpR op_lt (pe_ix (kixL K) (kfld K (pv 0)) (pv 2) (fun _ _ => rfl)) pe_int (nomark _))))) (fun _ _ _ _ _ => (pv 2)))
      (pss_one (ps_ret (pe_ifExp (pt_cmpR (kneD K hr.units) (pv 1) (pe_lst pa_nil) (nomark _)) (pe_ix (kixL K) (pv 1) pe_int (fun _ _ => rfl)) pe_non)))), ?_⟩
    obtain ⟨⟨dx, r, l, e1, e2, e3⟩, e4⟩ := id tab
    refine ⟨_, rfl, p, C, dx, _, _, rfl, e1, T.cl, T.n_many, tf_many, _, rfl, by omega, by omega, ?_⟩
    rw [Int.toNat_natCast]
    refine fun D nD => lc_sel (h := Hid.no) (walk_range (lo := 0) (n := t.many)) nD trivial (by omega) (fun j => decide (t.lacks.getD j 0 < 0)) (fun j => .int (j : Int)) (fun _ _ => trivial) ?_ ?_
    · rintro j x H3 H3' hj le3 _ ⟨rfl, rfl⟩ Q' N kq kn
      have s3 : Same H H3' := by have := le3.s; rw [show Hid.no.T = [] from rfl, cut_nil, cut_nil] at this; exact this
      refine ⟨rfl, _, rfl, p, C, dx, _, _, rfl, s3 _ _ e1, T.cl, T.n_lacks, tf_lacks, _, rfl, l, _, _, _, rfl, rfl, s3.seq (cut_same.seq e3), (by
        rw [Int.zero_add]; exact int_at (by omega)), _, _, rfl, rfl, _, rfl, ?_⟩
      cases c : decide (t.lacks.getD j 0 < 0) with
      | true =>
        refine iteT ⟨_, rfl, ?_⟩
        show Q' (V.int (0 + (j : Int))) H3'
        rw [Int.zero_add]
        exact kq H3' (Le.refl trivial) rfl c
      | false => exact iteF (kn H3' (Le.refl trivial) rfl c)
    · intro H4 le4 eM
      have s4 : Same H H4 := by have := le4.s; rw [show Hid.no.T = [] from rfl, cut_nil, cut_nil] at this; exact this
      rw [show Hid.no.T = [] from rfl, cut_nil] at eM
      let sel : List Nat := (List.range t.many).filter fun j => decide (t.lacks.getD j 0 < 0)
      have es : ((List.range t.many).filter fun j => decide (t.lacks.getD j 0 < 0)).map (fun j : Nat => V.int (j : Int)) = ((sel.map fun j : Nat => (j : Int)).map V.int) := by simp [sel]
      rw [es] at eM
      refine ⟨_, rfl, Nat.zero_le _, fun z nz => ?_⟩
      have s5 : Same H4 (upd H4 z (.lst [])) := same_new nz
      refine neD_nil (.inl (.inl (s5 _ _ eM))) (.inl (.inl upd_same)) ⟨_, rfl, ?_⟩
      cases hs : sel with
      | nil =>
        refine iteF (k0 (fun j hj => ?_) _ (s4.trans s5))
        refine Decidable.byContradiction fun c => ?_
        have hm : j ∈ sel := List.mem_filter.mpr ⟨List.mem_range.mpr hj, decide_eq_true (by omega)⟩
        rw [hs] at hm; simp at hm
      | cons j r =>
        have hm : j ∈ sel := by rw [hs]; exact List.mem_cons_self
        obtain ⟨m1, m2⟩ := List.mem_filter.mp hm
        have first : ∀ i, i < j → 0 ≤ t.lacks.getD i 0 := fun i hi => by
          refine Decidable.byContradiction fun c => ?_
          have hi2 : i ∈ sel := List.mem_filter.mpr ⟨List.mem_range.mpr (by have := List.mem_range.mp m1; omega), decide_eq_true (by omega)⟩
          have hp : sel.Pairwise (· < ·) := List.Pairwise.filter _ List.pairwise_lt_range
          rw [hs] at hp hi2
          rcases List.mem_cons.mp hi2 with e | e
          · omega
          · have := List.rel_of_pairwise_cons hp e
            omega
        rw [hs] at eM
        refine iteT ⟨_, rfl, _, _, 0, .int (j : Int), rfl, rfl, .inl (.inl (s5 _ _ eM)), by exact atI_nat (j := 0) rfl, ?_⟩
        exact k1 j (List.mem_range.mp m1) (of_decide_eq_true m2) first _ (s4.trans s5)
end
end Ls
end
section
set_option maxRecDepth 100000
namespace Ls
open PySem PySem.Spec PyProof.Rows L2
open Sx (cell Shape without newRow chooseT LeaveT gcdL ind markedRow marked)
section
variable {P : Program} {w : World} {K : PySem.W.Frag} {mg : Str → Option Value} {base : Heap} {C : Addr}
theorem int_last {ns : List Int} (h : 0 < ns.length) : atI (ns.map V.int) (-1) = some (.int (ns.getD (ns.length - 1) 0)) := by
  have e : ns.map V.int = (ns.dropLast.map V.int) ++ [V.int (ns.getD (ns.length - 1) 0)] := by
    have hn : ns ≠ [] := fun z => by subst z; simp at h
    have e1 : ns.getD (ns.length - 1) 0 = ns.getLast hn := by
      rw [List.getLast_eq_getElem]; simp [show ns.length - 1 < ns.length by omega]
    rw [e1, ← List.map_singleton, ← List.map_append, List.dropLast_concat_getLast]
  rw [e]
  exact atI_last _ _
/-! ### is_ahead -/
def aheadB (t : TS) (N s one other : Nat) : Bool :=
  decide (cell t.rows one (N - 1) * cell t.rows other s < cell t.rows other (N - 1) * cell t.rows one s) ||
  (decide (cell t.rows one (N - 1) * cell t.rows other s = cell t.rows other (N - 1) * cell t.rows one s) && decide (t.chosen.getD one 0 < t.chosen.getD other 0))
def spAhead (K : PySem.W.Frag) (C : Addr) : Sp := fun vs H Q _ => ∃ (p cc : Addr) (t : TS) (m N s one other : Nat), vs = [.ref p, .int (s : Int), .int (one : Int), .int (other : Int)] ∧ TabAt K C H p cc t ∧ Shape t m N ∧ s < N ∧ one < m ∧ other < m ∧ Q (.bl (aheadB t N s one other)) H
theorem wide4 {x y : Int} (hx : x.natAbs < 2 ^ 4000) (hy : y.natAbs < 2 ^ 4000) : CMulW x y := wide_mul hx hy (by decide) (by decide) (by decide)
theorem ok_ahead {f : Addr} {fd : FuncData} (F : Fun K "is_ahead" "Table.is_ahead" s_Table_is_ahead f fd) (T : TT K mg C) : FnOk P w K mg base CX0 1 f fd ["self", "spot", "one", "other"] (spAhead K C) := by
  refine F.ok sc_Table_is_ahead (fun vs H Q E h => ?_) (fun cdv A outer s H vs Q E hr h => ?_)
  · obtain ⟨p, cc, t, m, N, s, one, other, rfl, _⟩ := h
    rfl
  · obtain ⟨p, cc, t, m, N, sp, one, other, rfl, tab, S, hs, h1, h2, k⟩ := h
    refine ⟨_, (pss_cons (ps_par (i := 4) (j := 5) (by rfl) sc_Table_is_ahead.nd rfl rfl (by decide) rfl rfl (pa_cons (pe_op op_mulW (pe_ix (kixL K) (pe_ix (kixL K) (kfld K (pv 0)) (pv 2) (fun _ _ => rfl)) (pe_un un_neg pe_int) (fun _ _ => rfl)) (pe_ix (kixL K) (pe_ix (kixL K) (kfld K (pv 0)) (pv 3) (fun _ _ => rfl)) (pv 1) (fun _ _ => rfl))) (pa_cons (pe_op op_mulW (pe_ix (kixL K) (pe_ix (kixL K) (kfld K (pv 0)) (pv 3) (fun _ _ => rfl)) (pe_un un_neg pe_int) (fun _ _ => rfl)) (pe_ix (kixL K) (pe_ix (kixL K) (kfld K (pv 0)) (pv 2) (fun _ _ => rfl)) (pv 1) (fun _ _ => rfl))) pa_nil)) (by rfl))
      (pss_one (ps_ret (pe_or (pe_cmpR op_lt (pv 4) (pv 5) (nomark _)) (pe_one (pe_and (pe_cmpR op_eq (pv 4) (pv 5) (nomark _)) (pe_one (pe_cmpR op_lt (pe_ix (kixL K) (kfld K (pv 0)) (pv 2) (fun _ _ => rfl)) (pe_ix (kixL K) (kfld K (pv 0)) (pv 3) (fun _ _ => rfl)) (nomark _))))))))), ?_⟩
    obtain ⟨⟨dx, r, l, e1, e2, e3⟩, e4⟩ := id tab
    obtain ⟨b1, xs1, q1, q1l, q1a, q1r⟩ := e2.at (show one < t.rows.length by rw [S.rl]; exact h1)
    obtain ⟨b2, xs2, q2, q2l, q2a, q2r⟩ := e2.at (show other < t.rows.length by rw [S.rl]; exact h2)
    have n1 := S.re one h1
    have n2 := S.re other h2
    have last1 : atI ((t.rows.getD one []).map V.int) (-1) = some (.int (cell t.rows one (N - 1))) := by rw [int_last (by omega), n1]; rfl
    have last2 : atI ((t.rows.getD other []).map V.int) (-1) = some (.int (cell t.rows other (N - 1))) := by rw [int_last (by omega), n2]; rfl
    have at1 : atI ((t.rows.getD one []).map V.int) (sp : Int) = some (.int (cell t.rows one sp)) := int_at (by omega)
    have at2 : atI ((t.rows.getD other []).map V.int) (sp : Int) = some (.int (cell t.rows other sp)) := int_at (by omega)
    have c1 : atI (t.chosen.map V.int) (one : Int) = some (.int (t.chosen.getD one 0)) := int_at (by rw [S.cl]; exact h1)
    have c2 : atI (t.chosen.map V.int) (other : Int) = some (.int (t.chosen.getD other 0)) := int_at (by rw [S.cl]; exact h2)
    have G1 := cut_same.seq q1
    have G2 := cut_same.seq q2
    have R1 := cut_same.seq q1r
    have R2 := cut_same.seq q2r
    refine ⟨.ref p, rfl, p, C, dx, _, _, rfl, e1, T.cl, T.n_rows, tf_rows, .int (one : Int), rfl, r, xs1, _, _, rfl, rfl, G1, q1a, 1, rfl, b1, _, _, _, rfl, rfl, R1, last1, ?_⟩
    refine ⟨.ref p, rfl, p, C, dx, _, _, rfl, e1, T.cl, T.n_rows, tf_rows, .int (other : Int), rfl, r, xs2, _, _, rfl, rfl, G2, q2a, .int (sp : Int), rfl, b2, _, _, _, rfl, rfl, R2, at2, _, _, rfl, rfl, wide4 (S.bT _ h1 _) (S.bT _ h2 _), ?_⟩
    refine ⟨.ref p, rfl, p, C, dx, _, _, rfl, e1, T.cl, T.n_rows, tf_rows, .int (other : Int), rfl, r, xs2, _, _, rfl, rfl, G2, q2a, 1, rfl, b2, _, _, _, rfl, rfl, R2, last2, ?_⟩
    refine ⟨.ref p, rfl, p, C, dx, _, _, rfl, e1, T.cl, T.n_rows, tf_rows, .int (one : Int), rfl, r, xs1, _, _, rfl, rfl, G1, q1a, .int (sp : Int), rfl, b1, _, _, _, rfl, rfl, R1, at1, _, _, rfl, rfl, wide4 (S.bT _ h2 _) (S.bT _ h1 _), ?_⟩
    refine ⟨_, _, rfl, ?_⟩
    refine ⟨_, rfl, _, rfl, _, _, rfl, rfl, _, rfl, ?_⟩
    unfold aheadB at k
    cases hlt : decide (cell t.rows one (N - 1) * cell t.rows other sp < cell t.rows other (N - 1) * cell t.rows one sp) with
    | true =>
      rw [hlt] at k
      exact iteT k
    | false =>
      rw [hlt] at k
      refine iteF ⟨_, rfl, _, rfl, rfl, _, rfl, ?_⟩
      cases heq : decide (cell t.rows one (N - 1) * cell t.rows other sp = cell t.rows other (N - 1) * cell t.rows one sp) with
      | true =>
        rw [heq] at k
        rw [show decide (V.int (cell t.rows one (N - 1) * cell t.rows other sp) = V.int (cell t.rows other (N - 1) * cell t.rows one sp)) = true from decide_eq_true (congrArg V.int (of_decide_eq_true heq))]
        refine iteT ?_
        refine ⟨.ref p, rfl, p, C, dx, _, _, rfl, e1, T.cl, T.n_chosen, tf_chosen, .int (one : Int), rfl, cc, _, _, _, rfl, rfl, .inl (.inl e4), c1, ?_⟩
        refine ⟨.ref p, rfl, p, C, dx, _, _, rfl, e1, T.cl, T.n_chosen, tf_chosen, .int (other : Int), rfl, cc, _, _, _, rfl, rfl, .inl (.inl e4), c2, _, _, rfl, rfl, ?_⟩
        exact k
      | false =>
        rw [heq] at k
        rw [show decide (V.int (cell t.rows one (N - 1) * cell t.rows other sp) = V.int (cell t.rows other (N - 1) * cell t.rows one sp)) = false from decide_eq_false fun z => of_decide_eq_false heq (V.int.inj z)]
        exact iteF k
/-! ### without -/
def spWithout (K : PySem.W.Frag) (C : Addr) : Sp := fun vs H Q _ => ∃ (h : Hid) (p dx r cc l a b : Addr) (n d : Int) (row pivot : List Int) (s : Nat), vs = [.ref p, .ref a, .ref b, .int (s : Int)] ∧ h.good H ∧ (∀ H', Le h H H' → H' p = some (.ins C dx (tabFs n r cc l d))) ∧
  SqL K (cut h.T H) a (row.map V.int) ∧ SqL K (cut h.T H) b (pivot.map V.int) ∧ row.length = pivot.length ∧ row.length < 1000 ∧ s < row.length ∧ (∀ j, (row.getD j 0).natAbs < 2 ^ 4000) ∧ (∀ j, (pivot.getD j 0).natAbs < 2 ^ 4000) ∧ 0 < d ∧ d.natAbs < 2 ^ 4000 ∧
  ∀ D H', Le h H H' → H D = none → cut h.T H' D = some (.lst ((without row pivot s d).map V.int)) → Q (.ref D) H'
theorem ok_without {f : Addr} {fd : FuncData} (F : Fun K "without" "Table.without" s_Table_without f fd) (T : TT K mg C) : FnOk P w K mg base CX0 1 f fd ["self", "row", "pivot", "spot"] (spWithout K C) := by
  refine F.ok sc_Table_without (fun vs H Q E h => ?_) (fun cdv A outer s H vs Q E hr h => ?_)
  · obtain ⟨h, p, dx, r, cc, l, a, b, n, d, row, pivot, s, rfl, _⟩ := h
    rfl
  · obtain ⟨h, p, dx, r, cc, l, a, b, n, d, row, pivot, sp, rfl, g, hp, hA, hB, hl, hn, hs, bR, bP, hd0, hd1, k⟩ := h
    refine ⟨_, (pss_one (ps_ret (pe_lc (own := [("item", 4), ("other", 5)]) (g := gTup K 2 (gCons (gName 4) (gCons (gName 5) gNil))) (tt := tYes) rfl sc_Table_without.nd (kzip K T.b_zip (pa_cons (pv 1) (pa_cons (pv 2) pa_nil))) (blkOk_by (own := [("item", 4), ("other", 5)]) (N := ["self", "row", "pivot", "spot", "item", "other"]) (sc := defScope s_Table_without) (by decide +kernel)) (fun _ _ _ _ _ => (kg_tup K (pgs_cons (pg_name (i := 4) sc_Table_without.nd rfl (Or.inl rfl)) (pgs_cons (pg_name (i := 5) sc_Table_without.nd rfl (Or.inl rfl)) pgs_nil)))) (fun _ _ _ _ _ => pts_nil) (fun _ _ _ _ _ => (pe_op op_fdivW (pe_op op_sub (pe_op op_mulW (pv 4) (pe_ix (kixL K) (pv 2) (pv 3) (fun _ _ => rfl))) (pe_op op_mulW (pe_ix (kixL K) (pv 1) (pv 3) (fun _ _ => rfl)) (pv 5))) (kfld K (pv 0))))))), ?_⟩
    refine ⟨_, rfl, _, rfl, a, b, _, _, rfl, sql hA, sql hB, ?_⟩
    refine fun D nD => lc_ints (h := h) (walk_zip (n := row.length) (by simp [hl])) nD g (by omega) (fun j => (row.getD j 0 * pivot.getD sp 0 - row.getD sp 0 * pivot.getD j 0) / d) (fun H' s' => ⟨sql (s'.seq hA), sql (s'.seq hB)⟩) ?_ ?_
    · rintro j x H3 H3' hj le3 _ ⟨T1, x1, x2, rfl, nT, rfl, w1, w2⟩ Q' kk
      have w1' : (row.map V.int)[j]? = some x1 := w1
      have w2' : (pivot.map V.int)[j]? = some x2 := w2
      have x1e : x1 = .int (row.getD j 0) := by
        have : (row.map V.int)[j]? = some (.int (row.getD j 0)) := by simp [hj]
        exact Option.some.inj (w1'.symm.trans this)
      have x2e : x2 = .int (pivot.getD j 0) := by
        have : (pivot.map V.int)[j]? = some (.int (pivot.getD j 0)) := by simp [show j < pivot.length by omega]
        exact Option.some.inj (w2'.symm.trans this)
      subst x1e x2e
      have le4 : Le h H3 (upd H3 T1 (.tup [.int (row.getD j 0), .int (pivot.getD j 0)])) := Le.new le3.g nT
      have le5 := le3.trans le4
      have eT : ∀ D', (∃ xs, H3 D' = some (.lst xs)) → (upd H3 T1 (.tup [.int (row.getD j 0), .int (pivot.getD j 0)])) D' = H3 D' := fun D' ⟨xs, e⟩ => upd_ne (ne_of_none e nT)
      refine ⟨T1, _, rfl, .inl (.inl upd_same), rfl, _, _, rfl, _, _, rfl, rfl, rfl, ?_⟩
      refine ⟨_, rfl, .ref b, rfl, .int (sp : Int), rfl, b, _, _, _, rfl, rfl, sql (le5.s.seq hB), int_at (by omega), _, _, rfl, rfl, wide4 (bR _) (bP _), ?_⟩
      refine ⟨.ref a, rfl, .int (sp : Int), rfl, a, _, _, _, rfl, rfl, sql (le5.s.seq hA), int_at (by omega), _, rfl, _, _, rfl, rfl, wide4 (bR _) (bP _), _, _, rfl, rfl, ?_⟩
      refine ⟨.ref p, rfl, p, C, dx, _, _, rfl, hp _ le5, T.cl, T.n_below, tf_below, _, _, rfl, rfl, wide_div hd0 hd1 (by decide) (by decide), ?_⟩
      exact kk _ le4 (eT _ (by assumption))
    · intro H4 le4 eM
      exact k D H4 le4 nD eM
end
end Ls
end
section
set_option maxRecDepth 100000
namespace Ls
open PySem PySem.Spec PyProof.Rows L2
open Sx (cell Shape without newRow chooseT LeaveT gcdL ind markedRow marked)
section
variable {P : Program} {w : World} {K : PySem.W.Frag} {mg : Str → Option Value} {base : Heap} {C : Addr}
theorem better_trans {b1 a1 b2 a2 b3 a3 c1 c2 c3 : Int} (h1 : 0 < a1) (h2 : 0 < a2) (h3 : 0 < a3) (x : b1 * a2 < b2 * a1 ∨ (b1 * a2 = b2 * a1 ∧ c1 ≤ c2)) (y : b2 * a3 < b3 * a2 ∨ (b2 * a3 = b3 * a2 ∧ c2 ≤ c3)) :
    b1 * a3 < b3 * a1 ∨ (b1 * a3 = b3 * a1 ∧ c1 ≤ c3) := by
  have e1 : a2 * (b1 * a3) = a3 * (b1 * a2) := by grind
  have e2 : a2 * (b3 * a1) = a1 * (b3 * a2) := by grind
  have e3 : a3 * (b2 * a1) = a1 * (b2 * a3) := by grind
  rcases x with x | ⟨x, cx⟩
  · left
    refine Int.lt_of_mul_lt_mul_left (a := a2) ?_ (Int.le_of_lt h2)
    have k1 : a3 * (b1 * a2) < a3 * (b2 * a1) := Int.mul_lt_mul_of_pos_left x h3
    have k2 : a1 * (b2 * a3) ≤ a1 * (b3 * a2) := Int.mul_le_mul_of_nonneg_left (by omega) (Int.le_of_lt h1)
    omega
  · rcases y with y | ⟨y, cy⟩
    · left
      refine Int.lt_of_mul_lt_mul_left (a := a2) ?_ (Int.le_of_lt h2)
      have k2 : a1 * (b2 * a3) < a1 * (b3 * a2) := Int.mul_lt_mul_of_pos_left y h1
      rw [e1, e2, x, e3]; exact k2
    · right
      refine ⟨Int.eq_of_mul_eq_mul_left (Int.ne_of_gt h2) ?_, by omega⟩
      rw [e1, e2, x, e3, y]
def spLeave (K : PySem.W.Frag) (C : Addr) : Sp := fun vs H Q _ => ∃ (p cc : Addr) (t : TS) (m N s : Nat), vs = [.ref p, .int (s : Int)] ∧ TabAt K C H p cc t ∧ Shape t m N ∧ s < N ∧ (∃ i, i < m ∧ 0 < cell t.rows i s) ∧
  ∀ r H', LeaveT t m N s r m → Same H H' → Q (.int (r : Int)) H'
theorem ok_leave {f : Addr} {fd : FuncData} (F : Fun K "leaving" "Table.leaving" s_Table_leaving f fd) (T : TT K mg C) (M_is_ahead : Md P w K mg base C 1 "is_ahead" ["self", "spot", "one", "other"] (spAhead K C)) : FnOk P w K mg base CX0 2 f fd ["self", "spot"] (spLeave K C) := by
  refine F.ok sc_Table_leaving (fun vs H Q E h => ?_) (fun cdv A outer s H vs Q E hr h => ?_)
  · obtain ⟨p, cc, t, m, N, s, rfl, _⟩ := h
    rfl
  · obtain ⟨p, cc, t, m, N, sp, rfl, tab, S, hs, ⟨i0, hi0, hp0⟩, k⟩ := h
    refine ⟨_, (pss_cons (ps_set (i := 2) sc_Table_leaving.nd rfl (Or.inl rfl) pe_non)
      (pss_cons (ps_for PassesOwn.never rfl (kenum K T.b_enumerate (pa_cons (kfld K (pv 0)) pa_nil)) (kg_tup K (pgs_cons (pg_name (i := 3) sc_Table_leaving.nd rfl (Or.inl rfl)) (pgs_cons (pg_name (i := 4) sc_Table_leaving.nd rfl (Or.inl rfl)) pgs_nil))) (pss_one (ps_if (PW.pt (pw_and (pt_cmpR op_gt (pe_ix (kixL K) (pv 4) (pv 1) (fun _ _ => rfl)) pe_int (nomark _)) (pw_and1 (PW.pt (pw_or (pt_cmpR op_isN (pv 2) pe_non (nomark _)) (pw_or1 (pt_val (pe_md M_is_ahead T.cl (hr.mono (by decide)) (pv 0) (pa_cons (pv 1) (pa_cons (pv 3) (pa_cons (pv 2) pa_nil))))))))))) (pss_one (ps_set (i := 2) sc_Table_leaving.nd rfl (Or.inl rfl) (pv 3))) pss_nil)))
      (pss_one (ps_ret (pv 2))))), ?_⟩
    obtain ⟨⟨dx, r, l, e1, e2, e3⟩, e4⟩ := id tab
    obtain ⟨as, q1, q2, q3⟩ := id e2
    have q1' := cut_same.seq q1
    refine ⟨_, rfl, p, C, dx, _, _, rfl, e1, T.cl, T.n_rows, tf_rows, r, as.map V.ref, rfl, q1', for_it walk_enum (fun i σ H2 => ∃ v2 v3 v4, σ = [some (.ref p), some (.int (sp : Int)), some v2, v3, v4] ∧ Same H H2 ∧
        ((v2 = .non ∧ ∀ j, j < i → ¬ 0 < cell t.rows j sp) ∨ ∃ r, v2 = .int (r : Nat) ∧ LeaveT t m N sp r i)) ⟨.non, none, none, rfl, Same.refl _, .inl ⟨rfl, fun j hj => absurd hj (Nat.not_lt_zero _)⟩⟩ (fun i σ H2 _ ⟨_, _, _, _, s2, _⟩ => s2.seq q1') ?_ ?_⟩
    · rintro i x σ H2 H2' hi ⟨v2, v3, v4, rfl, s2, hf⟩ ⟨T1, x1, x2, rfl, nT, rfl, w1, w2⟩
      rw [List.length_map] at hi
      have him : i < m := by rw [← S.rl, ← q2]; exact hi
      have w1' : V.int (i : Int) = x1 := Option.some.inj w1
      subst w1'
      have hx2 : x2 = .ref as[i] := by
        have w2' : (as.map V.ref)[i]? = some x2 := w2
        rw [List.getElem?_map, List.getElem?_eq_getElem hi] at w2'
        exact (Option.some.inj w2').symm
      subst hx2
      have s3 : Same H (upd H2 T1 (.tup [.int (i : Int), .ref as[i]])) := s2.trans (same_new nT)
      have hrow : SqL K (upd H2 T1 (.tup [.int (i : Int), .ref as[i]])) as[i] ((t.rows.getD i []).map V.int) := by
        have hi' : i < t.rows.length := by rw [← q2]; exact hi
        have := q3 i as[i] t.rows[i] (List.getElem?_eq_getElem hi) (List.getElem?_eq_getElem hi')
        rw [show t.rows.getD i [] = t.rows[i] by simp [hi']]
        exact s3.seq (cut_same.seq this)
      refine ⟨T1, _, rfl, .inl (.inl upd_same), rfl, _, _, rfl, _, _, rfl, rfl, ?_⟩
      refine ⟨_, rfl, .int (sp : Int), rfl, as[i], _, _, _, rfl, rfl, hrow, int_at (by rw [S.re i him]; exact hs), _, _, rfl, rfl, _, rfl, ?_⟩
      show (if decide (0 < cell t.rows i sp) = true then _ else _)
      cases c : decide (0 < cell t.rows i sp) with
      | false =>
        have c' : ¬ 0 < cell t.rows i sp := of_decide_eq_false c
        refine iteF (iteF ⟨v2, _, _, rfl, s3, ?_⟩)
        rcases hf with ⟨e, hf⟩ | ⟨r, e, L⟩
        · refine .inl ⟨e, fun j hj => ?_⟩
          by_cases q : j = i
          · subst q; exact c'
          · exact hf j (by omega)
        · refine .inr ⟨r, e, L.lt, by have := L.ln; omega, L.pos, fun j hj hp => ?_⟩
          by_cases q : j = i
          · subst q; exact absurd hp c'
          · exact L.le j (by omega) hp
      | true =>
        have c' : 0 < cell t.rows i sp := of_decide_eq_true c
        refine iteT ⟨v2, rfl, rfl, _, rfl, ?_⟩
        rcases hf with ⟨e, hf⟩ | ⟨r, e, L⟩
        · subst e
          refine iteT (iteT ⟨_, rfl, .int (i : Int), _, _, rfl, s3, .inr ⟨i, rfl, him, by omega, c', fun j hj hp => ?_⟩⟩)
          by_cases q : j = i
          · subst q; exact .inr ⟨rfl, Int.le_refl _⟩
          · exact absurd hp (hf j (by omega))
        · subst e
          refine iteF ?_
          refine ⟨.ref p, rfl, p, dx, _, rfl, s3 _ _ e1, rfl, .int (sp : Int), rfl, .int (i : Int), rfl, .int (r : Int), rfl, p, cc, t, m, N, sp, i, r, rfl, tab.le s3, S, hs, him, L.lt, _, rfl, ?_⟩
          cases ah : aheadB t N sp i r with
          | true =>
            refine iteT ⟨_, rfl, .int (i : Int), _, _, rfl, s3, .inr ⟨i, rfl, him, by omega, c', fun j hj hp => ?_⟩⟩
            have hb : cell t.rows i (N - 1) * cell t.rows r sp < cell t.rows r (N - 1) * cell t.rows i sp ∨ (cell t.rows i (N - 1) * cell t.rows r sp = cell t.rows r (N - 1) * cell t.rows i sp ∧ t.chosen.getD i 0 ≤ t.chosen.getD r 0) := by
              unfold aheadB at ah
              simp only [Bool.or_eq_true, Bool.and_eq_true, decide_eq_true_eq] at ah
              rcases ah with ah | ⟨a1, a2⟩
              · exact .inl ah
              · exact .inr ⟨a1, by omega⟩
            by_cases q : j = i
            · subst q; exact .inr ⟨rfl, Int.le_refl _⟩
            · exact better_trans c' L.pos hp hb (L.le j (by omega) hp)
          | false =>
            refine iteF ⟨_, _, _, rfl, s3, .inr ⟨r, rfl, L.lt, by have := L.ln; omega, L.pos, fun j hj hp => ?_⟩⟩
            by_cases q : j = i
            · subst q
              unfold aheadB at ah
              simp only [Bool.or_eq_false_iff, Bool.and_eq_false_imp, decide_eq_false_iff_not, decide_eq_true_eq] at ah
              obtain ⟨a1, a2⟩ := ah
              by_cases e : cell t.rows j (N - 1) * cell t.rows r sp = cell t.rows r (N - 1) * cell t.rows j sp
              · exact .inr ⟨e.symm, by have := a2 e; omega⟩
              · exact .inl (by omega)
            · exact L.le j (by omega) hp
    · rintro σ H2 ⟨v2, v3, v4, rfl, s2, hf⟩
      rw [List.length_map, q2, S.rl] at hf
      rcases hf with ⟨e, hf⟩ | ⟨r, e, L⟩
      · exact absurd hp0 (hf i0 hi0)
      · subst e
        exact ⟨_, rfl, k r H2 L s2⟩
end
end Ls
end
section
set_option maxRecDepth 100000
namespace Ls
open PySem PySem.Spec PyProof.Rows L2
open Sx (cell Shape without newRow chooseT LeaveT gcdL ind markedRow marked)
section
variable {P : Program} {w : World} {K : PySem.W.Frag} {mg : Str → Option Value} {base : Heap} {C : Addr}
def spChoose (K : PySem.W.Frag) (C : Addr) : Sp := fun vs H Q _ => ∃ (p cc : Addr) (t : TS) (m N s : Nat), vs = [.ref p, .int (s : Int)] ∧ p ≠ cc ∧ TabAt K C H p cc t ∧ Shape t m N ∧ s < N ∧ (∃ i, i < m ∧ 0 < cell t.rows i s) ∧
  ∀ r H', LeaveT t m N s r m → Same (cut [p, cc] H) (cut [p, cc] H') → TabAt K C H' p cc (chooseT t r s) → Q .non H'
theorem ok_choose {f : Addr} {fd : FuncData} (F : Fun K "choose" "Table.choose" s_Table_choose f fd) (T : TT K mg C) (M_leaving : Md P w K mg base C 2 "leaving" ["self", "spot"] (spLeave K C))
    (M_without : Md P w K mg base C 1 "without" ["self", "row", "pivot", "spot"] (spWithout K C)) : FnOk P w K mg base CX0 3 f fd ["self", "spot"] (spChoose K C) := by
  refine F.ok sc_Table_choose (fun vs H Q E h => ?_) (fun cdv A outer s H vs Q E hr h => ?_)
  · obtain ⟨p, cc, t, m, N, s, rfl, _⟩ := h
    rfl
  · obtain ⟨p, cc, t, m, N, sp, rfl, hpc, tab, S, hs, hex, k⟩ := h
    refine ⟨_, (pss_cons (ps_set (i := 2) sc_Table_choose.nd rfl (by first | exact Or.inl rfl | exact Or.inr rfl) (pe_md M_leaving T.cl (hr.mono (by decide)) (pv 0) (pa_cons (pv 1) pa_nil)))
      (pss_cons (ps_set (i := 3) sc_Table_choose.nd rfl (by first | exact Or.inl rfl | exact Or.inr rfl) (pe_ix (kixL K) (kfld K (pv 0)) (pv 2) (fun _ _ => rfl)))
      (pss_cons (ps_setLc (i := 4) (own := [("index", 5), ("row", 6)]) (g := gTup K 2 (gCons (gName 5) (gCons (gName 6) gNil))) (tt := tYes) rfl sc_Table_choose.nd rfl rfl (sw_true rfl rfl rfl (by decide +kernel)) (kenum K T.b_enumerate (pa_cons (kfld K (pv 0)) pa_nil)) (blkOk_by (own := [("index", 5), ("row", 6)]) (N := ["self", "spot", "here", "pivot", "rows", "index", "row"]) (sc := defScope s_Table_choose) (by decide +kernel)) (fun _ _ _ _ _ => (kg_tup K (pgs_cons (pg_name (i := 5) sc_Table_choose.nd rfl (Or.inl rfl)) (pgs_cons (pg_name (i := 6) sc_Table_choose.nd rfl (Or.inl rfl)) pgs_nil)))) (fun _ _ _ _ _ => pts_nil) (fun _ _ _ _ _ => (pe_ifExp (pt_cmpR op_eq (pv 5) (pv 2) (nomark _)) (pv 6) (pe_md M_without T.cl (hr.mono (by decide)) (pv 0) (pa_cons (pv 6) (pa_cons (pv 3) (pa_cons (pv 1) pa_nil)))))))
      (pss_cons (ps_fld (pv 0) (pe_md M_without T.cl (hr.mono (by decide)) (pv 0) (pa_cons (kfld K (pv 0)) (pa_cons (pv 3) (pa_cons (pv 1) pa_nil)))) rfl)
      (pss_cons (ps_asg (pe_tup (pa_cons (pv 4) (pa_cons (pe_ix (kixL K) (pv 3) (pv 1) (fun _ _ => rfl)) pa_nil))) (kg_tup K (pgs_cons (pg_fld (pv 0)) (pgs_cons (pg_fld (pv 0)) pgs_nil))))
      (pss_one (ps_asg (pv 1) (pg_sub (kfld K (pv 0)) (pv 2) set_list)))))))), ?_⟩
    obtain ⟨⟨dx0, r0, l0, e10, _, _⟩, _⟩ := id tab
    refine ⟨.ref p, rfl, p, dx0, _, rfl, e10, rfl, .int (sp : Int), rfl, p, cc, t, m, N, sp, rfl, tab, S, hs, hex, fun r H1 L s1 => ?_⟩
    have tab1 := tab.le s1
    obtain ⟨⟨dx, ra, l, e1, e2, e3⟩, e4⟩ := id tab1
    obtain ⟨as, q1, q2, q3⟩ := id e2
    have hr' : r < t.rows.length := by rw [S.rl]; exact L.lt
    have hra : r < as.length := by omega
    have Lr := L.lt
    refine ⟨.ref p, rfl, p, C, dx, _, _, rfl, e1, T.cl, T.n_rows, tf_rows, .int (r : Int), rfl, ra, as.map V.ref, _, .ref as[r], rfl, rfl, cut_same.seq q1, atI_nat (by simp [hra]), ?_⟩
    have hpiv : SqL K (cut [p, cc] H1) as[r] ((t.rows.getD r []).map V.int) := by
      rw [show t.rows.getD r [] = t.rows[r] by simp [hr']]
      exact q3 r as[r] t.rows[r] (List.getElem?_eq_getElem hra) (List.getElem?_eq_getElem hr')
    have hd : ∀ a ∈ [p, cc], H1 a ≠ none := fun a ha => by
      rcases List.mem_cons.mp ha with z | z
      · subst z; rw [e1]; intro q; cases q
      · rw [List.mem_singleton.mp z, e4]; intro q; cases q
    let h : Hid := Hid.frz [p, cc] H1 hd
    have g1 : h.good H1 := fun a _ => rfl
    have hst : ∀ H', Le h H1 H' → H' p = some (.ins C dx (tabFs (t.many : Int) ra cc l t.below)) := fun H' le => (le.g p (by simp)).trans e1
    refine ⟨.ref p, rfl, p, C, dx, _, _, rfl, e1, T.cl, T.n_rows, tf_rows, ra, as.map V.ref, rfl, cut_same.seq q1, ?_⟩
    refine fun D nD => lc_all (h := h) walk_enum nD g1 (by rw [List.length_map, q2, S.rl]; have := S.hm; omega) (fun i y H' => ∃ b, y = .ref b ∧ SqL K H' b ((newRow t r sp i).map V.int)) (fun i v H H' s' ⟨b, e, q⟩ => ⟨b, e, s'.seq q⟩) (fun H' s' => cut_same.seq (s'.seq q1)) ?_ ?_
    · rintro i x H3 H3' hi le3 ⟨zs, hD⟩ ⟨T1, x1, x2, rfl, nT, rfl, w1, w2⟩ Q' kk
      rw [List.length_map] at hi
      have him : i < m := by rw [← S.rl, ← q2]; exact hi
      have hir : i < t.rows.length := by omega
      have w1' : V.int (i : Int) = x1 := Option.some.inj w1
      subst w1'
      have hx2 : x2 = .ref as[i] := by
        have w2' : (as.map V.ref)[i]? = some x2 := w2
        rw [List.getElem?_map, List.getElem?_eq_getElem hi] at w2'
        exact (Option.some.inj w2').symm
      subst hx2
      have le4 : Le h H3 (upd H3 T1 (.tup [.int (i : Int), .ref as[i]])) := Le.new le3.g nT
      have le5 := le3.trans le4
      have nDT : D ≠ T1 := ne_of_none hD nT
      have hrow : SqL K (cut [p, cc] H1) as[i] ((t.rows.getD i []).map V.int) := by
        rw [show t.rows.getD i [] = t.rows[i] by simp [hir]]
        exact q3 i as[i] t.rows[i] (List.getElem?_eq_getElem hi) (List.getElem?_eq_getElem hir)
      refine ⟨T1, _, rfl, .inl (.inl upd_same), rfl, _, _, rfl, _, _, rfl, rfl, rfl, ?_⟩
      refine ⟨_, rfl, .int (r : Int), rfl, rfl, _, rfl, ?_⟩
      by_cases c : i = r
      · subst c
        rw [decide_eq_true rfl]
        refine iteT ⟨_, rfl, kk _ _ le4 (upd_ne nDT) ⟨as[i], rfl, ?_⟩⟩
        have : newRow t i sp i = t.rows.getD i [] := if_pos rfl
        rw [this]
        exact (cut_sub_mono le5.s).seq ((cut_add nD).seq hrow)
      · have c' : ¬ V.int (i : Int) = V.int (r : Int) := fun z => c (by have := V.int.inj z; omega)
        rw [decide_eq_false c']
        refine iteF ⟨.ref p, rfl, p, dx, _, rfl, hst _ le5, rfl, .ref as[i], rfl, .ref as[r], rfl, .int (sp : Int), rfl, ?_⟩
        refine ⟨h, p, dx, ra, cc, l, as[i], as[r], _, _, t.rows.getD i [], t.rows.getD r [], sp, rfl, le5.g, fun H' le => hst H' (le5.trans le), le5.s.seq hrow, le5.s.seq hpiv, ?_, ?_, ?_, fun j => S.bT i him j, fun j => S.bT r Lr j, S.pos, S.bD, ?_⟩
        · rw [S.re i him, S.re r Lr]
        · rw [S.re i him]; exact S.hN
        · rw [S.re i him]; exact hs
        · intro D' H' le6 nD' eD'
          have nDD : D' ≠ D := fun z => by
            rw [z] at nD'
            have : (upd H3 T1 (.tup [.int (i : Int), .ref as[i]])) D = some (.lst zs) := by rw [upd_ne nDT]; exact hD
            rw [this] at nD'; cases nD'
          have nDh : D ∉ [p, cc] := fun z => hd D z nD
          have eD : H' D = H3 D := by
            have := cut_le (le6.s D (.lst zs) (by rw [cut_ne (show D ∉ h.T from nDh), upd_ne nDT]; exact hD))
            rw [this, hD]
          refine kk _ H' (le4.trans le6) eD ⟨D', rfl, .inl (.inl ?_)⟩
          rw [cut_both nDD eD']
          have : newRow t r sp i = without (t.rows.getD i []) (t.rows.getD r []) sp t.below := if_neg c
          rw [this]
    · intro H2 ys le2 eD hyl hys
      rw [List.length_map, q2] at hyl
      have nDh : D ∉ [p, cc] := fun z => hd D z nD
      have hrows : RowsL K (cut [p, cc] H2) D ((List.range t.rows.length).map (newRow t r sp)) := RowsL.of _ (.inl (.inl eD)) hyl fun i y e => by
        obtain ⟨b, eb, hb⟩ := hys i y e
        exact ⟨b, eb, cut_sub.seq hb⟩
      refine ⟨.ref p, rfl, p, dx, _, rfl, hst _ le2, rfl, .ref p, rfl, p, C, dx, _, _, rfl, hst _ le2, T.cl, T.n_lacks, tf_lacks, .ref as[r], rfl, .int (sp : Int), rfl, ?_⟩
      refine ⟨h, p, dx, ra, cc, l, l, as[r], _, _, t.lacks, t.rows.getD r [], sp, rfl, le2.g, fun H' le => hst H' (le2.trans le), le2.s.seq e3, le2.s.seq hpiv, ?_, ?_, ?_, S.bL, fun j => S.bT r Lr j, S.pos, S.bD, ?_⟩
      · rw [S.ll, S.re r Lr]
      · rw [S.ll]; exact S.hN
      · rw [S.ll]; exact hs
      intro LL H3 le3 nL eL
      refine ⟨.ref p, rfl, p, C, dx, _, rfl, hst _ (le2.trans le3), T.cl, T.n_lacks, (show 5 < 1000 by decide), ?_⟩
      have le23 := le2.trans le3
      have npiv : as[r] ≠ p ∨ True := .inr trivial
      let H4 : Hp := upd H3 p (.ins C dx (putF "lacks" (.ref LL) (tabFs (t.many : Int) ra cc l t.below)))
      have c4 : cut [p, cc] H4 = cut [p, cc] H3 := by
        funext b
        by_cases q : b ∈ [p, cc]
        · rw [cut_in q, cut_in q]
        · rw [cut_ne q, cut_ne q]
          exact upd_ne (fun z => q (by simp [z]))
      have hpiv4 : SqL K H4 as[r] ((t.rows.getD r []).map V.int) := (cut_same (T := [p, cc])).seq (by rw [c4]; exact le23.s.seq hpiv)
      refine ⟨.ref D, rfl, .ref as[r], rfl, .int (sp : Int), rfl, as[r], _, _, _, rfl, rfl, hpiv4, int_at (by rw [S.re r Lr]; exact hs), (show 2 ≤ sizeLine by decide), fun TT nTT => ?_⟩
      have pT : p ≠ TT := fun z => by
        have e2 : H4 p = some _ := upd_same
        have e3 : H4 p = none := z ▸ nTT
        rw [e2] at e3; cases e3
      have ccT : cc ≠ TT := fun z => by
        have e3 : H4 cc = none := z ▸ nTT
        have : H4 cc = some (.lst (t.chosen.map V.int)) := by rw [show H4 cc = H3 cc from upd_ne (Ne.symm hpc)]; exact (le23.g cc (by simp)).trans e4
        rw [this] at e3; cases e3
      refine ⟨TT, _, rfl, .inl (.inl upd_same), rfl, _, _, rfl, ?_⟩
      refine ⟨.ref p, rfl, p, C, dx, _, rfl, (upd_ne pT).trans upd_same, T.cl, T.n_rows, (show 5 < 1000 by decide), ?_⟩
      refine ⟨_, _, rfl, .ref p, rfl, p, C, dx, _, rfl, upd_same, T.cl, T.n_below, (show 5 < 1000 by decide), rfl, ?_⟩
      rw [tp_lacks, tp_rows, tp_below, upd_upd]
      refine ⟨.int (sp : Int), rfl, .ref p, rfl, p, C, dx, _, _, rfl, upd_same, T.cl, T.n_chosen, tf_chosen, .int (r : Int), rfl, cc, t.chosen.map V.int, (r : Int), r, rfl, rfl, ?_, ?_, ?_⟩
      · rw [upd_ne (Ne.symm hpc), upd_ne ccT, upd_ne (Ne.symm hpc)]
        exact (le23.g cc (by simp)).trans e4
      · unfold ixN
        rw [if_pos (by omega), if_pos (by rw [List.length_map, S.cl]; omega)]
        simp
      · have c5 : ∀ (o0 o1 o2 : HO), cut [p, cc] (upd (upd (upd (upd H3 p o0) TT (.tup [.ref D, .int ((t.rows.getD r []).getD sp 0)])) p o1) cc o2) = cut [p, cc] (upd H3 TT (.tup [.ref D, .int ((t.rows.getD r []).getD sp 0)])) := fun o0 o1 o2 => by
          funext b
          by_cases q : b ∈ [p, cc]
          · rw [cut_in q, cut_in q]
          · have n1 : b ≠ p := fun z => q (by simp [z])
            have n2 : b ≠ cc := fun z => q (by simp [z])
            rw [cut_ne q, cut_ne q, upd_ne n2, upd_ne n1]
            by_cases z : b = TT
            · rw [z, upd_same, upd_same]
            · rw [upd_ne z, upd_ne z]
              exact upd_ne n1
        have nT3 : H3 TT = none := by rw [← show H4 TT = H3 TT from upd_ne (Ne.symm pT)]; exact nTT
        have s6 : Same (cut [p, cc] H3) (cut [p, cc] (upd H3 TT (.tup [.ref D, .int ((t.rows.getD r []).getD sp 0)]))) := cut_mono (same_new nT3)
        refine k r _ L ?_ ⟨⟨dx, D, LL, ?_, ?_, ?_⟩, ?_⟩
        · rw [c5]; exact ((cut_mono s1).trans le23.s).trans s6
        · rw [upd_ne hpc, upd_same]; rfl
        · rw [c5]; exact (hrows.mono le3.s).mono s6
        · rw [c5]; exact s6.seq (.inl (.inl eL))
        · rw [upd_same]
          show some (HO.lst ((t.chosen.map V.int).set r (V.int (sp : Int)))) = some (HO.lst ((t.chosen.set r (sp : Int)).map V.int))
          rw [List.map_set]
end
end Ls
end
section
set_option maxRecDepth 100000
namespace Ls
open PySem PySem.Spec PyProof.Rows L2
open Sx (cell Shape without newRow chooseT LeaveT gcdL ind markedRow marked Good)
section
variable {P : Program} {w : World} {K : PySem.W.Frag} {mg : Str → Option Value} {base : Heap} {C : Addr}
/-! ### lead -/
def spLead (K : PySem.W.Frag) (C : Addr) : Sp := fun vs H Q _ => ∃ (p cc : Addr) (t : TS) (B : Sx.Prob), vs = [.ref p] ∧ p ≠ cc ∧ TabAt K C H p cc t ∧ Good B t ∧ (∀ t', Good B t' → Shape t' B.m (B.n + B.m + 1)) ∧
  ∀ t' H', Same (cut [p, cc] H) (cut [p, cc] H') → TabAt K C H' p cc t' → Good B t' → (∀ j, j < B.n → 0 ≤ t'.lacks.getD j 0) → Q .non H'
theorem ok_lead {f : Addr} {fd : FuncData} (F : Fun K "lead" "Table.lead" s_Table_lead f fd) (T : TT K mg C) (M_choose : Md P w K mg base C 3 "choose" ["self", "spot"] (spChoose K C))
    (M_entering : Md P w K mg base C 1 "entering" ["self"] (spEnter K C)) : FnOk P w K mg base CX0 4 f fd ["self"] (spLead K C) := by
  refine F.ok sc_Table_lead (fun vs H Q E h => ?_) (fun cdv A outer s H vs Q E hr h => ?_)
  · obtain ⟨p, cc, t, B, rfl, _⟩ := h
    rfl
  · obtain ⟨p, cc, t, B, rfl, hpc, tab, G, hsh, k⟩ := h
    refine ⟨_, (pss_cons (ps_set (i := 1) sc_Table_lead.nd rfl (Or.inl rfl) (pe_md0 M_entering T.cl (hr.mono (by decide)) (pv 0)))
      (pss_one (ps_while PassesOwn.never (pt_cmpR op_notN (pv 1) pe_non (nomark _)) (pss_cons (ps_expr (pe_md M_choose T.cl (hr.mono (by decide)) (pv 0) (pa_cons (pv 1) pa_nil)))
      (pss_one (ps_set (i := 1) sc_Table_lead.nd rfl (Or.inl rfl) (pe_md0 M_entering T.cl (hr.mono (by decide)) (pv 0)))))))), ?_⟩
    have ent : ∀ (t' : TS) (H1 : Hp) (Q' : VK) (σ : L2.St), TabAt K C H1 p cc t' → Good B t' → (∀ v H2, Same H1 H2 → (v = .non ∧ (∀ j, j < B.n → 0 ≤ t'.lacks.getD j 0)) ∨ (∃ s : Nat, v = .int (s : Int) ∧ s < B.n ∧ t'.lacks.getD s 0 < 0 ∧ ∀ j, j < s → 0 ≤ t'.lacks.getD j 0) → Q' v H2) → tNil σ H1 (fun vs H2 => spEnter K C (.ref p :: (vs ++ [])) H2 Q' E0) := fun t' H1 Q' σ tab1 G1 k1 => by
      have S1 := hsh t' G1
      refine ⟨p, cc, t', rfl, tab1, by have := S1.mN; have := S1.hN; omega, by rw [S1.ll]; exact Nat.le_of_lt S1.mN, fun h0 H2 s2 => k1 _ _ s2 (.inl ⟨rfl, fun j hj => h0 j (by rw [G1.n]; exact hj)⟩), fun s hs h1 h2 H2 s2 => k1 _ _ s2 (.inr ⟨s, rfl, by rw [← G1.n]; exact hs, h1, h2⟩)⟩
    obtain ⟨⟨dx, ra, l, e1, e2, e3⟩, e4⟩ := id tab
    refine ⟨.ref p, rfl, p, dx, _, rfl, e1, rfl, ?_⟩
    refine ent t H _ _ tab G fun v H1 s1 hv => ?_
    obtain ⟨n0, F0⟩ := G.I.fin
    refine ⟨fun μ σ H' => ∃ (t' : TS) (v' : V), σ = [some (.ref p), some v'] ∧ Same (cut [p, cc] H) (cut [p, cc] H') ∧ TabAt K C H' p cc t' ∧ Good B t' ∧ Sx.Prob.Fin B μ (Sx.view B.m t') ∧
      ((v' = .non ∧ (∀ j, j < B.n → 0 ≤ t'.lacks.getD j 0)) ∨ (∃ s : Nat, v' = .int (s : Int) ∧ s < B.n ∧ t'.lacks.getD s 0 < 0 ∧ ∀ j, j < s → 0 ≤ t'.lacks.getD j 0)), ⟨n0, t, v, rfl, cut_mono s1, tab.le s1, G, F0, hv⟩, ?_⟩
    rintro μ σ H' ⟨t', v', rfl, s', tab', G', F', hv'⟩
    refine ⟨_, rfl, rfl, _, rfl, ?_⟩
    rcases hv' with ⟨rfl, h0⟩ | ⟨sp, rfl, hs, h1, h2⟩
    · exact iteF (k t' H' s' tab' G' h0)
    · have S' := hsh t' G'
      have En := Sx.Good.enter (P := B) (t := t') hs h1 h2
      refine iteT ⟨fun σ2 H2 => ∃ (μ' : Nat), μ' < μ ∧ ∃ (t' : TS) (v' : V), σ2 = [some (.ref p), some v'] ∧ Same (cut [p, cc] H) (cut [p, cc] H2) ∧ TabAt K C H2 p cc t' ∧ Good B t' ∧ Sx.Prob.Fin B μ' (Sx.view B.m t') ∧
        ((v' = .non ∧ (∀ j, j < B.n → 0 ≤ t'.lacks.getD j 0)) ∨ (∃ s : Nat, v' = .int (s : Int) ∧ s < B.n ∧ t'.lacks.getD s 0 < 0 ∧ ∀ j, j < s → 0 ≤ t'.lacks.getD j 0)), fun σ2 H2 hN => hN, ?_⟩
      obtain ⟨⟨dx', ra', l', e1', _, _⟩, _⟩ := id tab'
      refine ⟨.ref p, rfl, p, dx', _, rfl, e1', rfl, .int (sp : Int), rfl, p, cc, t', B.m, B.n + B.m + 1, sp, rfl, hpc, tab', S', by omega, G'.some hs h1, fun r H2 L s2 tab2 => ?_⟩
      obtain ⟨G2, μ2, hμ, F2⟩ := G'.step F' En L
      obtain ⟨⟨dx2, ra2, l2, e12, _, _⟩, _⟩ := id tab2
      refine ⟨.ref p, rfl, p, dx2, _, rfl, e12, rfl, ?_⟩
      refine ent _ H2 _ _ tab2 G2 fun v3 H3 s3 hv3 => ?_
      exact ⟨μ2, hμ, chooseT t' r sp, v3, rfl, (s'.trans s2).trans (cut_mono s3), tab2.le s3, G2, F2, hv3⟩
end
end Ls
end
section
set_option maxRecDepth 100000
namespace Ls
open PySem PySem.Spec PyProof.Rows L2
open Sx (cell Shape without newRow chooseT LeaveT gcdL ind markedRow marked Good)
section
variable {P : Program} {w : World} {K : PySem.W.Frag} {mg : Str → Option Value} {base : Heap} {C : Addr}
/-- the item that a list gives at a place -/
theorem RowsL.nth {H : Hp} {a : Addr} {rows : List (List Int)} {as : List Addr} (h2 : as.length = rows.length) (h3 : ∀ (i : Nat) (b : Addr) (row : List Int), as[i]? = some b → rows[i]? = some row → SqL K H b (row.map V.int)) {i : Nat} {x : V} (hx : (as.map V.ref)[i]? = some x) :
    ∃ b, x = .ref b ∧ i < rows.length ∧ SqL K H b ((rows.getD i []).map V.int) := by
  rw [List.getElem?_map] at hx
  cases e : as[i]? with
  | none => rw [e] at hx; cases hx
  | some b =>
    rw [e] at hx
    have hi := (List.getElem?_eq_some_iff.mp e).1
    refine ⟨b, (Option.some.inj hx).symm, by omega, ?_⟩
    have := h3 i b rows[i] e (List.getElem?_eq_getElem (by omega))
    rw [show rows.getD i [] = rows[i] by simp [show i < rows.length by omega]]
    exact this
def spInit (K : PySem.W.Frag) (C : Addr) : Sp := fun vs H Q _ => ∃ (p dx a : Addr) (S : List (List Int)) (m n : Nat), vs = [.ref p, .ref a] ∧ H p = some (.ins C dx []) ∧ RowsL K (cut [p] H) a S ∧ S.length = m ∧ 0 < m ∧ m < 900 ∧ n < 900 ∧ (∀ i, i < m → (S.getD i []).length = n) ∧
  ∀ cc H', p ≠ cc → H cc = none → Same (cut [p] H) (cut [p] H') → TabAt K C H' p cc (Sx.start m n S) → Q .non H'
theorem ok_init {f : Addr} {fd : FuncData} (F : Fun K "__init__" "Table.__init__" s_Table___init__ f fd) (T : TT K mg C) (D_marked_rows : Df P w K mg base 1 "marked_rows" ["several"] (spMarked K)) : FnOk P w K mg base CX0 2 f fd ["self", "several"] (spInit K C) := by
  refine F.ok sc_Table___init__ (fun vs H Q E h => ?_) (fun cdv A outer s H vs Q E hr h => ?_)
  · obtain ⟨p, dx, a, S, m, n, rfl, _⟩ := h
    rfl
  · obtain ⟨p, dx, a, S, m, n, rfl, hp, hR, hm, hm0, hm9, hn9, hl, k⟩ := h
    refine ⟨_, (pss_cons (ps_fld (pv 0) (pe_callB (klen K) (by rfl) T.b_len (by decide +kernel) (pa_cons (pe_ix (kixL K) (pv 1) pe_int (fun _ _ => rfl)) pa_nil)) rfl)
      (pss_cons (ps_fld (pv 0) (pe_df D_marked_rows (hr.mono (by decide)) (by rfl) (pa_cons (pv 1) pa_nil)) rfl)
      (pss_cons (ps_fld (pv 0) (pe_lc (own := [("index", 3)]) (g := gName 3) (tt := tYes) rfl sc_Table___init__.nd (pi_range1 (by rfl) T.b_range (pa_cons (pe_callB (klen K) (by rfl) T.b_len (by decide +kernel) (pa_cons (pv 1) pa_nil)) pa_nil)) (blkOk_by (own := [("index", 3)]) (N := ["self", "several", "sums", "index", "spot", "row"]) (sc := defScope s_Table___init__) (by decide +kernel)) (fun _ _ _ _ _ => (pg_name (i := 3) sc_Table___init__.nd rfl (Or.inl rfl))) (fun _ _ _ _ _ => pts_nil) (fun _ _ _ _ _ => (pe_op op_add (kfld K (pv 0)) (pv 3)))) rfl)
      (pss_cons (ps_setLc (i := 2) (own := [("spot", 4)]) (g := gName 4) (tt := tYes) rfl sc_Table___init__.nd rfl rfl (sw_true rfl rfl rfl (by decide +kernel)) (pi_range1 (by rfl) T.b_range (pa_cons (kfld K (pv 0)) pa_nil)) (blkOk_by (own := [("spot", 4)]) (N := ["self", "several", "sums", "index", "spot", "row"]) (sc := defScope s_Table___init__) (by decide +kernel)) (fun _ _ _ _ _ => (pg_name (i := 4) sc_Table___init__.nd rfl (by first | exact Or.inl rfl | exact Or.inr rfl))) (fun _ _ _ _ _ => pts_nil) (fun _ _ _ _ _ => (pe_op op_sub pe_int (pe_callB (ksum K) (by rfl) T.b_sum (by decide +kernel) (pa_cons (pe_lc (own := [("row", 5)]) (g := gName 5) (tt := tYes) rfl sc_Table___init__.nd (kfor_list K (kfld K (pv 0))) (blkOk_by (own := [("row", 5)]) (N := ["self", "several", "sums", "index", "spot", "row"]) (sc := relS _ (defScope s_Table___init__)) (by decide +kernel)) (fun _ _ _ _ _ => (pg_name (i := 5) sc_Table___init__.nd rfl (Or.inl rfl))) (fun _ _ _ _ _ => pts_nil) (fun _ _ _ _ _ => (pe_ix (kixL K) (pv 5) (pv 4) (fun _ _ => rfl)))) pa_nil)))))
      (pss_cons (ps_fld (pv 0) (pe_lst (kstar K (pv 2) (kstar K (pe_lc (own := [("row", 5)]) (g := gName 5) (tt := tYes) rfl sc_Table___init__.nd (kfor_list K (pv 1)) (blkOk_by (own := [("row", 5)]) (N := ["self", "several", "sums", "index", "spot", "row"]) (sc := defScope s_Table___init__) (by decide +kernel)) (fun _ _ _ _ _ => (pg_name (i := 5) sc_Table___init__.nd rfl (Or.inl rfl))) (fun _ _ _ _ _ => pts_nil) (fun _ _ _ _ _ => pe_int)) (pa_cons (pe_un un_neg pe_int) pa_nil)))) rfl)
      (pss_one (ps_fld (pv 0) pe_int rfl))))))), ?_⟩
    obtain ⟨as, hA, hal, hrow⟩ := id hR
    have c1 : ∀ (H : Hp) (o : HO), cut [p] (upd H p o) = cut [p] H := fun H o => cut_cons
    have frz : ∀ (H1 : Hp), H1 p ≠ none → ∀ a ∈ [p], H1 a ≠ none := fun H1 h a ha => by rw [List.mem_singleton.mp ha]; exact h
    obtain ⟨b0, xs0, q1, q2, q3, q4⟩ := hR.at (show 0 < S.length by omega)
    refine ⟨.ref a, rfl, a, xs0, _, .ref b0, rfl, rfl, cut_same.seq q1, q3, b0, _, rfl, .inl (cut_same.seq q4), .ref p, rfl, p, C, dx, _, rfl, hp, T.cl, T.n_many, (show 0 < 1000 by decide), ?_⟩
    rw [List.length_map, hl 0 hm0]
    let h1 := Hid.frz [p] (upd H p (.ins C dx (putF "many" (.int (n : Int)) []))) (frz _ (by rw [upd_same]; intro q; cases q))
    refine ⟨.ref a, rfl, h1, a, S, rfl, fun _ _ => rfl, by rw [show h1.T = [p] from rfl, c1]; exact hR, by omega, by omega, fun row hrow => ?_, fun r H2 le2 nr hr2 => ?_⟩
    · obtain ⟨i, hi, e⟩ := List.getElem_of_mem hrow
      have := hl i (by omega)
      rw [show S.getD i [] = S[i] by simp [hi], e] at this
      omega
    have s2 : Same (cut [p] H) (cut [p] H2) := by have := le2.s; rw [show h1.T = [p] from rfl, c1] at this; exact this
    have hp2 : H2 p = some (.ins C dx (putF "many" (.int (n : Int)) [])) := (le2.g p (by simp)).trans upd_same
    refine ⟨.ref p, rfl, p, C, dx, _, rfl, hp2, T.cl, T.n_rows, (show 1 < 1000 by decide), ?_⟩
    have hp3 : ∀ (o : HO), (upd H2 p o) p = some o := fun o => upd_same
    refine ⟨.ref a, rfl, a, as.map V.ref, rfl, .inl ((cut_same (T := [p])).seq (by rw [c1]; exact s2.seq hA)), _, rfl, by rw [List.length_map]; omega, by rw [List.length_map]; omega, ?_⟩
    rw [List.length_map, hal, hm, Int.toNat_natCast]
    let h3 := Hid.frz [p] (upd H2 p (.ins C dx (putF "rows" (.ref r) (putF "many" (.int (n : Int)) [])))) (frz _ (by rw [upd_same]; intro q; cases q))
    refine fun cc ncc => lc_ints (h := h3) (walk_range (lo := 0) (n := m)) ncc (fun _ _ => rfl) (by omega) (fun i => (n : Int) + (i : Int)) (fun _ _ => trivial) ?_ ?_
    · rintro i x H3 H3' hi le3 _ ⟨rfl, rfl⟩ Q' kk
      refine ⟨rfl, .ref p, rfl, p, C, dx, _, _, rfl, (le3.g p (by simp)).trans upd_same, T.cl, T.n_many, rfl, _, rfl, _, _, rfl, rfl, ?_⟩
      show Q' (.int ((n : Int) + (0 + (i : Int)))) H3'
      rw [Int.zero_add]
      exact kk H3' (Le.refl le3.g) rfl
    intro H4 le4 ecc
    have s4 : Same (cut [p] H2) (cut [p] H4) := by have := le4.s; rw [show h3.T = [p] from rfl, c1] at this; exact this
    have hp4 : H4 p = some (.ins C dx (putF "rows" (.ref r) (putF "many" (.int (n : Int)) []))) := (le4.g p (by simp)).trans upd_same
    have pcc : p ≠ cc := fun z => by rw [← z, upd_same] at ncc; cases ncc
    have ncc2 : H2 cc = none := by rw [← upd_ne (H := H2) (o := .ins C dx (putF "rows" (.ref r) (putF "many" (.int (n : Int)) []))) (Ne.symm pcc)]; exact ncc
    have ncc0 : H cc = none := by
      cases e : H cc with
      | none => rfl
      | some o =>
        have := cut_le (s2 cc o (by rw [cut_ne (by simp [Ne.symm pcc])]; exact e))
        rw [ncc2] at this; cases this
    refine ⟨.ref p, rfl, p, C, dx, _, rfl, hp4, T.cl, T.n_chosen, (show 2 < 1000 by decide), ?_⟩
    let fs5 := putF "chosen" (.ref cc) (putF "rows" (.ref r) (putF "many" (.int (n : Int)) []))
    let h5 := Hid.frz [p] (upd H4 p (.ins C dx fs5)) (frz _ (by rw [upd_same]; intro q; cases q))
    have hr5 : RowsL K (cut [p] (upd H4 p (.ins C dx fs5))) r (marked S) := by rw [c1]; exact RowsL.mono s4 hr2
    obtain ⟨rs, hRr, hrl, hrr⟩ := id hr5
    have ml : (marked S).length = m := by unfold marked; rw [List.length_map, List.length_range, hm]
    have mg : ∀ i, i < m → (marked S).getD i [] = markedRow m i (S.getD i []) := fun i hi => by unfold marked; rw [Sx.getD_map (by omega), hm]
    refine ⟨.ref p, rfl, p, C, dx, _, _, rfl, upd_same, T.cl, T.n_many, rfl, _, rfl, by omega, by omega, ?_⟩
    rw [Int.toNat_natCast]
    refine fun sm nsm => lc_ints (h := h5) (walk_range (lo := 0) (n := n)) nsm (fun _ _ => rfl) (by omega) (fun s => 0 - ((List.range m).map (fun i => cell S i s)).sum) (fun _ _ => trivial) ?_ ?_
    · rintro j x H6 H6' hj le6 ⟨zs, hD⟩ ⟨rfl, rfl⟩ Q' kk
      have hp6 : H6' p = some (.ins C dx fs5) := (le6.g p (by simp)).trans upd_same
      refine ⟨rfl, .ref p, rfl, p, C, dx, _, _, rfl, hp6, T.cl, T.n_rows, rfl, r, rfl, ⟨_, cut_same.seq (le6.s.seq hRr)⟩, ?_⟩
      have hlen : (rs.map V.ref).length = m := by rw [List.length_map, hrl, ml]
      refine fun D2 nD2 => lc_ints (h := h5) (walk_list (K := K) (a := r) (xs := rs.map V.ref)) nD2 le6.g (by rw [hlen]; omega) (fun i => cell S i j) (fun H' s' => cut_same.seq ((le6.s.trans s').seq hRr)) ?_ ?_
      · rintro i x H7 H7' hi le7 _ ⟨rfl, hx⟩ Q2 kk2
        obtain ⟨b, rfl, hi2, hb⟩ := RowsL.nth (H := cut [p] (upd H4 p (.ins C dx fs5))) (a := r) hrl hrr hx
        have hi3 : i < m := by omega
        rw [mg i hi3] at hb
        refine ⟨rfl, .ref b, rfl, .int (0 + (j : Int)), rfl, b, _, _, .int (cell S i j), rfl, rfl, cut_same.seq ((le6.s.trans le7.s).seq hb), ?_, kk2 _ (Le.refl le7.g) rfl⟩
        rw [Int.zero_add]
        have e : (markedRow m i (S.getD i [])).getD j 0 = cell S i j := by
          unfold markedRow
          rw [Sx.gd_l (by rw [hl i hi3]; exact hj)]; rfl
        rw [← e]
        refine int_at ?_
        unfold markedRow
        rw [List.length_append, hl i hi3]; omega
      · intro H8 le8 e8
        rw [hlen] at e8
        refine ⟨D2, _, rfl, .inl (.inl (cut_le e8)), 0, _, rfl, rfl, kk _ le8 ?_⟩
        have nD : sm ∉ [p] := fun z => by rw [List.mem_singleton.mp z, upd_same] at nsm; cases nsm
        have := cut_le (le8.s sm (.lst zs) (by rw [cut_ne (show sm ∉ h5.T from nD)]; exact hD))
        rw [this, hD]
    intro H6 le6 esm
    have hp6 : H6 p = some (.ins C dx fs5) := (le6.g p (by simp)).trans upd_same
    have s6 : Same (cut [p] H4) (cut [p] H6) := by have := le6.s; rw [show h5.T = [p] from rfl, c1] at this; exact this
    refine ⟨.ref sm, rfl, sm, _, rfl, .inr (.inl (.inl (cut_le esm))), ?_⟩
    have hA6 : SqL K (cut [p] H6) a (as.map V.ref) := s6.seq (s4.seq (s2.seq hA))
    have hla : (as.map V.ref).length = m := by rw [List.length_map, hal, hm]
    refine ⟨.ref a, rfl, a, rfl, ⟨_, cut_same.seq hA6⟩, ?_⟩
    refine fun zl nzl => lc_ints (h := h5) (walk_list (K := K) (a := a) (xs := as.map V.ref)) nzl le6.g (by rw [hla]; omega) (fun i => 0) (fun H' s' => cut_same.seq (s'.seq hA6)) ?_ ?_
    · rintro i x H7 H7' hi le7 _ ⟨rfl, hx⟩ Q2 kk2
      exact ⟨rfl, kk2 _ (Le.refl le7.g) rfl⟩
    intro H7 le7 ezl
    rw [hla] at ezl
    refine ⟨zl, _, rfl, .inr (.inl (.inl (cut_le ezl))), 1, rfl, ?_, fun L nL => ?_⟩
    · simp; rw [sizeLine_eq]; omega
    have hp7 : H7 p = some (.ins C dx fs5) := (le7.g p (by simp)).trans upd_same
    have pL : p ≠ L := fun z => by rw [← z, hp7] at nL; cases nL
    refine ⟨.ref p, rfl, p, C, dx, _, rfl, (upd_ne pL).trans hp7, T.cl, T.n_lacks, (show 3 < 1000 by decide), ?_⟩
    refine ⟨.ref p, rfl, p, C, dx, _, rfl, upd_same, T.cl, T.n_below, (show 4 < 1000 by decide), ?_⟩
    rw [upd_upd]
    have s7 : Same (cut [p] H6) (cut [p] H7) := le7.s
    have s8 : Same (cut [p] H7) (cut [p] (upd H7 L (.lst (((List.range n).map (fun s => 0 - ((List.range m).map (fun i => cell S i s)).sum)).map V.int ++ (((List.range m).map (fun _ => (0 : Int))).map V.int ++ [V.int (-1)]))))) := cut_mono (same_new nL)
    have ecc4 : H4 cc = some (.lst (((List.range m).map (fun i : Nat => (n : Int) + (i : Int))).map V.int)) := cut_le ecc
    have ecc7 : cut [p] H7 cc = some (.lst (((List.range m).map (fun i : Nat => (n : Int) + (i : Int))).map V.int)) := (s6.trans s7) cc _ (by rw [cut_ne (by simp [Ne.symm pcc])]; exact ecc4)
    have two : ∀ (H : Hp), cut [cc, p] H = cut [p, cc] H := fun H => by
      funext b
      by_cases q : b = cc ∨ b = p
      · rw [cut_in (by rcases q with q | q <;> simp [q]), cut_in (by rcases q with q | q <;> simp [q])]
      · rw [cut_ne (by simp; exact ⟨fun z => q (.inl z), fun z => q (.inr z)⟩), cut_ne (by simp; exact ⟨fun z => q (.inr z), fun z => q (.inl z)⟩)]
    have ccL : cc ≠ L := fun z => by
      have := cut_le ecc7
      rw [z, nL] at this; cases this
    refine k cc _ pcc ncc0 ?_ ⟨⟨dx, r, L, upd_same, ?_, ?_⟩, ?_⟩
    · rw [c1]; exact (((s2.trans s4).trans s6).trans s7).trans s8
    · rw [← two]
      refine RowsL.mono ?_ (RowsL.mono (cut_add ncc2) hr2)
      refine cut_sub_mono ?_
      show Same (cut [p] H2) (cut [p] _)
      rw [c1]
      exact ((s4.trans s6).trans s7).trans s8
    · refine .inl (.inl ?_)
      rw [cut_ne (by simp; exact ⟨Ne.symm pL, Ne.symm ccL⟩), upd_ne (Ne.symm pL), upd_same]
      show some (HO.lst _) = some (HO.lst ((Sx.lacks0 m n S).map V.int))
      unfold Sx.lacks0
      rw [List.map_append, List.map_append]; rfl
    · rw [upd_ne (Ne.symm pcc), upd_ne ccL]
      exact cut_le ecc7
end
end Ls
end
section
set_option maxRecDepth 100000
set_option maxHeartbeats 2000000
namespace Ls
open PySem PySem.Spec PyProof.Rows L2
/-! ### list(d.values()) -/
def tListVals (te : TE) : TE := fun σ H Q => te σ H fun x H1 => ∃ (d : Addr) (kvs : List (Key × V)), x = .ref d ∧ H1 d = some (.dK kvs) ∧ ∀ l, H1 l = none → Q (.ref l) (upd H1 l (.lst (kvs.map (·.2))))
section
variable {X : Cx} {e : Expr} {te : TE} {p apos cpos pos : Pos}
theorem vals_of : ∀ {kvs : List (Key × V)} {vs : List (Key × Value)} {us : List Value}, KV kvs vs → us.length = vs.length → (∀ (i : Nat) (u : Value), us[i]? = some u → ∃ k, vs[i]? = some (k, u)) → Vals (kvs.map (·.2)) us
  | _, _, [], .nil, _, _ => .nil
  | _, _, _ :: _, .nil, h, _ => by simp at h
  | _, _, [], .cons _ _, h, _ => by simp at h
  | _, _, u :: us, .cons r t, h, g => by
    obtain ⟨k, e⟩ := g 0 u rfl
    have e' := Option.some.inj e
    refine .cons ?_ (vals_of t (by simpa using h) fun i v hv => g (i + 1) v hv)
    have := r.2
    rw [e'] at this
    exact this
theorem pe_listValues (hc : X.calm = true) (he : PE X e te) (hg : Gl X "list") (hm : X.mg "list" = none) (hv : bootBuiltins "list" = some (.type "list")) (hbase : attributeBase e "values" X.env (eval e X.env) = eval e X.env := by rfl) (hline : (apos.endLine == cpos.line) = true := by rfl)
    (hs : starEach [.Call (.Attribute e "values" apos) [] [] cpos] X.env = (false, eval (.Call (.Attribute e "values" apos) [] [] cpos) X.env) :: starEach [] X.env := by rfl) :
    PE X (.Call (.Name "list" p) [.Call (.Attribute e "values" apos) [] [] cpos] [] pos) (tListVals te) := by
  refine ⟨fun pins s σ H Q I hq => ?_⟩
  refine wpAny_Call_Name_kw (ld_blt I hg hm hv ?_)
  refine PyProof.Rows.callWith_type1 ?_ hs rfl
  rw [hs]
  show wpAny _ _ (spliced ((false, eval (.Call (.Attribute e "values" apos) [] [] cpos) X.env) :: backTo pos (starEach [] X.env))) _ _ s
  refine Calls.spliced_cons ?_
  refine wpAny_Call_method (T := "dict") (id := "dict.values") hbase rfl hline F.plainAttrs_dict F.slot_dict_values F.type_dict_values (thn (he.run pins s σ H _ I hq) fun u s1 ⟨x, H1, I1, rx, d, kvs, ex, hd, q⟩ => ?_)
  subst ex
  obtain rfl : u = Value.ref d := rx
  obtain ⟨hz, hs0, vs, kv, hdo⟩ := I1.hok d _ hd
  obtain ⟨ep, hat⟩ := hdo.dictAt
  have lk : kvs.length = vs.length := Paired.length kv
  have I2 : Inv X pins σ H1 { s1 with heap := s1.heap.push { cls := .type "dict_values", data := .fields #[.ref d] } } := I1.kept (t' := s1.toks) fun b ob q => Heap.get?_push_of_some _ q
  refine ⟨hdo.typeIs, hdo.mapOf.noDict, ?_⟩
  show wpAny _ _ (callWith cpos (.builtin "dict.values") [.ref d] [] []) _ X.xe s1
  refine method_meetsIn F.slot_dict_values F.entry_dict_values rfl (PySem.evalArgs_none ⟨rfl, hdo.typeIs, F.args_dict_values_1 _, _, meets_dict_values (mixKind X.prog X.w) d hs0, ⟨vs, hdo⟩, ?_⟩)
  refine Calls.spliced_nil ?_
  refine PySem.W.kdl_call (PySem.W.kdl_values (knd := mixKind X.prog X.w) (kvs := vs) (ep := ep)) (I1.ok.hd hc) ⟨⟨_, Heap.get?_push_size _ rfl, rfl, rfl⟩, hat.push _⟩ (by omega) fun h' tk acc c hk hS hacc => ?_
  have J : Inv X pins σ (upd H1 (s1.heap.push { cls := .type "dict_values", data := .fields #[.ref d] }).objs.size (.lst (kvs.map (·.2)))) { { s1 with heap := s1.heap.push { cls := .type "dict_values", data := .fields #[.ref d] } } with heap := h', toks := tk } := by
    refine I2.laid (t' := tk) hk (Nat.le_refl _) ⟨by rw [List.length_map]; exact hz, acc.toList, c, vals_of kv (by rw [Array.length_toList]; exact hacc.1) fun i u hu => hacc.2 i u (by rw [← Array.getElem?_toList]; exact hu), ?_⟩
    rw [Array.toArray_toList]; exact hS
  exact ⟨.ref _, _, J, rfl, q _ (I2.hok.fresh (Nat.le_refl _))⟩
end
end Ls
end
section
set_option maxRecDepth 100000
namespace Ls
open PySem PySem.Spec PyProof.Rows L2
open Sx (cell Shape without newRow chooseT LeaveT gcdL ind markedRow marked Good duals nums vals times valS)
theorem cut_no {H : Hp} : cut Hid.no.T H = H := cut_nil
theorem Le.no {H H' : Hp} (l : Le Hid.no H H') : Same H H' := by have := l.s; rw [cut_no, cut_no] at this; exact this
section
variable {P : Program} {w : World} {K : PySem.W.Frag} {mg : Str → Option Value} {base : Heap} {C : Addr}
theorem mid_of {ls : List Int} {n size : Nat} (hl : ls.length = n + size + 2) : cutV (ls.map V.int) (some (n : Int)) (some (-2)) = ((List.range size).map fun k => ls.getD (n + k) 0).map V.int := by
  unfold cutV
  have e1 : HT.sIx ls.length ls.length (some (-2)) = n + size := by
    unfold HT.sIx
    dsimp only
    rw [if_pos (by decide)]; omega
  rw [List.length_map, HT.sIx_nat, e1]
  refine List.ext_getElem (by simp; omega) fun i h1 h2 => ?_
  simp at h1 h2
  simp [show min n ls.length = n by omega, show n + i < ls.length by omega]
def spNumbers (K : PySem.W.Frag) (C : Addr) : Sp := fun vs H Q _ => ∃ (p cc : Addr) (t : TS) (m n size : Nat), vs = [.ref p] ∧ TabAt K C H p cc t ∧ t.many = n ∧ Shape t m (n + size + 2) ∧
  ∀ D H', Same H H' → H' D = some (.tup ((nums t n size).map V.int)) → Q (.ref D) H'
theorem ok_numbers {f : Addr} {fd : FuncData} (F : Fun K "numbers_in" "numbers_in" s_numbers_in f fd) (T : TT K mg C) (D_divisor_of : Df P w K mg base 1 "divisor_of" ["several"] (spDivisor K)) : FnOk P w K mg base CX0 2 f fd ["table"] (spNumbers K C) := by
  refine F.ok sc_numbers_in (fun vs H Q E h => ?_) (fun cdv A outer s H vs Q E hr h => ?_)
  · obtain ⟨p, cc, t, m, n, size, rfl, _⟩ := h
    rfl
  · obtain ⟨p, cc, t, m, n, size, rfl, tab, hn, S, k⟩ := h
    refine ⟨_, (pss_cons (ps_setLc (i := 1) (own := [("lack", 3)]) (g := gName 3) (tt := tYes) rfl sc_numbers_in.nd rfl rfl (sw_true rfl rfl rfl (by decide +kernel)) (kfor_list K (pe_slice (kslL K) (kfld K (pv 0)) (po_some (kfld K (pv 0))) (po_some (pe_un un_neg pe_int)))) (blkOk_by (own := [("lack", 3)]) (N := ["table", "several", "least", "lack", "number"]) (sc := defScope s_numbers_in) (by decide +kernel)) (fun _ _ _ _ _ => (pg_name (i := 3) sc_numbers_in.nd rfl (by first | exact Or.inl rfl | exact Or.inr rfl))) (fun _ _ _ _ _ => pts_nil) (fun _ _ _ _ _ => (pe_op op_sub (kfld K (pv 0)) (pv 3))))
      (pss_cons (ps_set (i := 2) sc_numbers_in.nd rfl (by first | exact Or.inl rfl | exact Or.inr rfl) (pe_callB (call_max2 rfl) (by rfl) T.b_max (by decide +kernel) (pa_cons pe_int (pa_cons (pe_df D_divisor_of (hr.mono (by decide)) (by rfl) (pa_cons (pv 1) pa_nil)) pa_nil))))
      (pss_one (ps_ret (pe_callTy (ktuple K) (by rfl) T.b_tuple (by decide +kernel) (pa_cons (pe_lc (own := [("number", 4)]) (g := gName 4) (tt := tYes) rfl sc_numbers_in.nd (kfor_list K (pv 1)) (blkOk_by (own := [("number", 4)]) (N := ["table", "several", "least", "lack", "number"]) (sc := defScope s_numbers_in) (by decide +kernel)) (fun _ _ _ _ _ => (pg_name (i := 4) sc_numbers_in.nd rfl (by first | exact Or.inl rfl | exact Or.inr rfl))) (fun _ _ _ _ _ => pts_nil) (fun _ _ _ _ _ => (pe_op op_fdivW (pv 4) (pv 2)))) pa_nil)))))), ?_⟩
    obtain ⟨⟨dx, r, l, e1, e2, e3⟩, e4⟩ := id tab
    have hll := S.ll
    have hN := S.hN
    rw [hn] at e1
    refine ⟨.ref p, rfl, p, C, dx, _, _, rfl, e1, T.cl, T.n_lacks, tf_lacks, .ref p, rfl, p, C, dx, _, _, rfl, e1, T.cl, T.n_many, tf_many, _, rfl, 2, rfl, _, rfl, l, _, rfl, cut_same.seq e3, fun q nq => ⟨q, rfl, ?_⟩⟩
    rw [show (-2 : Int) = (-2 : Int) from rfl, mid_of hll]
    have s0 : Same H (upd H q (.lst (((List.range size).map fun k => t.lacks.getD (n + k) 0).map V.int))) := same_new nq
    refine ⟨⟨_, .inl (.inl upd_same)⟩, ?_⟩
    refine fun D nD => lc_ints (h := Hid.no) (walk_list (K := K) (a := q) (xs := ((List.range size).map fun k => t.lacks.getD (n + k) 0).map V.int)) nD trivial (by simp; omega) (fun k => t.below - t.lacks.getD (n + k) 0) (fun H' s' => (by rw [cut_no, cut_no] at s'; exact s'.seq (.inl (.inl upd_same)))) ?_ ?_
    · rintro i x H3 H3' hi le3 _ ⟨rfl, hx⟩ Q' kk
      have hi2 : i < size := by simpa using hi
      have s3 := s0.trans le3.no
      have ex : x = .int (t.lacks.getD (n + i) 0) := by
        have : (((List.range size).map fun k => t.lacks.getD (n + k) 0).map V.int)[i]? = some (.int (t.lacks.getD (n + i) 0)) := by simp [hi2]
        exact Option.some.inj (hx.symm.trans this)
      subst ex
      exact ⟨rfl, .ref p, rfl, p, C, dx, _, _, rfl, s3 _ _ e1, T.cl, T.n_below, tf_below, _, rfl, _, _, rfl, rfl, kk H3' (Le.refl trivial) rfl⟩
    intro H4 le4 eM
    rw [cut_no] at eM
    rw [show (((List.range size).map fun k => t.lacks.getD (n + k) 0).map V.int).length = size by simp] at eM
    have s4 := s0.trans le4.no
    refine ⟨.ref D, rfl, D, duals t n size, rfl, .inl (.inl eM), 1, _, rfl, ?_⟩
    have eg : (if ((gcdL (duals t n size) : Nat) : Int) > 1 then ((gcdL (duals t n size) : Nat) : Int) else 1) = ((max 1 (gcdL (duals t n size)) : Nat) : Int) := by
      split <;> omega
    rw [eg]
    have db : ∀ y ∈ duals t n size, y.natAbs < 2 ^ 4001 := fun y hy => by
      obtain ⟨j, _, rfl⟩ := List.mem_map.mp hy
      have b1 := S.bD
      have b2 := S.bL (n + j)
      have : (2 : Nat) ^ 4001 = 2 ^ 4000 * 2 := Nat.pow_succ ..
      omega
    have gb : (max 1 (gcdL (duals t n size))) < 2 ^ 4002 := by
      have p1 : (2 : Nat) ^ 4001 * 2 = 2 ^ 4002 := (Nat.pow_succ ..).symm
      have p0 := Sx.two_pos 4000
      have p2 : (2 : Nat) ^ 4001 = 2 ^ 4000 * 2 := Nat.pow_succ ..
      by_cases z : ∃ y ∈ duals t n size, y ≠ 0
      · obtain ⟨y, hy, ny⟩ := z
        have := Sx.gcdL_le hy ny
        have := db y hy
        omega
      · have : gcdL (duals t n size) = 0 := Sx.gcdL_zero fun y hy => Decidable.byContradiction fun c => z ⟨y, hy, c⟩
        omega
    refine ⟨.ref D, rfl, D, rfl, ⟨_, .inl (.inl eM)⟩, ?_⟩
    refine fun D2 nD2 => lc_ints (h := Hid.no) (walk_list (K := K) (a := D) (xs := (duals t n size).map V.int)) nD2 trivial (by unfold duals; simp; omega) (fun k => (duals t n size).getD k 0 / ((max 1 (gcdL (duals t n size)) : Nat) : Int)) (fun H' s' => (by rw [cut_no, cut_no] at s'; exact s'.seq (.inl (.inl eM)))) ?_ ?_
    · rintro i x H3 H3' hi le3 _ ⟨rfl, hx⟩ Q' kk
      have hi2 : i < (duals t n size).length := by simpa using hi
      have ex : x = .int ((duals t n size).getD i 0) := by
        have : ((duals t n size).map V.int)[i]? = some (.int ((duals t n size).getD i 0)) := by simp [hi2]
        exact Option.some.inj (hx.symm.trans this)
      subst ex
      exact ⟨rfl, _, rfl, _, rfl, _, _, rfl, rfl, wide_div (by omega) (b := 4002) (by omega) (by decide) (by decide), kk H3' (Le.refl trivial) rfl⟩
    intro H5 le5 eM5
    rw [cut_no] at eM5
    have s5 := s4.trans le5.no
    refine ⟨D2, _, rfl, .inl ⟨.inl (.inl eM5), fun z nz => ?_⟩⟩
    refine k z _ (s5.trans (same_new nz)) ?_
    rw [upd_same]
    have : ((List.range ((duals t n size).map V.int).length).map fun k => (duals t n size).getD k 0 / ((max 1 (gcdL (duals t n size)) : Nat) : Int)) = nums t n size := by
      unfold nums
      refine List.ext_getElem (by simp) fun i h1 h2 => ?_
      simp at h1 h2
      simp [h1]
    rw [this]
end
end Ls
end
section
set_option maxRecDepth 100000
namespace Ls
open PySem PySem.Spec PyProof.Rows L2
open Sx (cell Shape without newRow chooseT LeaveT gcdL ind markedRow marked Good duals nums vals times valS)
/-- a dict comprehension with a test: f i tells whether the i-th gives, kf i under what key, v i what; no key comes twice -/
theorem dc_sel {h : Hid} {J : It} {n : Nat} {G : Hp → Prop} {Y : Nat → Hp → V → Hp → Prop} (w : Walk J n G Y) {g : TG} {tt : L2.TT} {tk tv : TE} {vs : List Nat} {σ : L2.St} {H1 : Hp} {D : Addr} {Qd : Hp → Prop} (hD : H1 D = none) (g1 : h.good H1) (hn : n < 10000000)
    (f : Nat → Bool) (kf : Nat → Key) (v : Nat → V) (inj : ∀ i j, i < n → j < n → f i = true → f j = true → kf i = kf j → i = j) (hG : ∀ H', Same (cut h.T H1) (cut h.T H') → G H')
    (hs : ∀ i x H H', i < n → Le h H1 H → (∃ kvs, H D = some (.dK kvs)) → Y i H x H' → ∀ (Q' : V → V → Hp → Prop) (N : Hp → Prop), (∀ H4, Le h H H4 → H4 D = H D → f i = true → Q' (kV (kf i)) (v i) H4) → (∀ H4, Le h H H4 → H4 D = H D → f i = false → N H4) →
      g x (wipe σ vs) H' fun σ2 H2 => wipe σ2 vs = wipe σ vs ∧ tt σ2 H2 fun b H3 => if b = true then tk σ2 H3 fun y H4 => tv σ2 H4 fun z H5 => Q' y z H5 else N H3)
    (hd : ∀ H', Le h H1 H' → cut h.T H' D = some (.dK (((List.range n).filter f).map fun i => (kf i, v i))) → Qd H') :
    ∃ W : Nat → Nat → Hp → Prop, (∃ m, W 0 m (upd H1 D (.dK []))) ∧ ∀ i m H, W i m H →
      (J.stop i H ∧ Qd H) ∨ (J.go i H ∧ ∃ Nx : Hp → Prop, (∀ H', Nx H' → ∃ m', m' < m ∧ W (i + 1) m' H') ∧ ∀ x H', J.yld i H x H' → g x (wipe σ vs) H' fun σ2 H2 => wipe σ2 vs = wipe σ vs ∧ tt σ2 H2 fun b H3 =>
        if b = true then tk σ2 H3 fun y H4 => tv σ2 H4 fun z H5 => ∃ kvs k, y = kV k ∧ H5 D = some (.dK kvs) ∧ kvs.length < sizeLine ∧ Nx (upd H5 D (.dK (putK kvs k z))) else Nx H3) := by
  have nD := Hid.nin g1 hD
  let Pv : Nat → Hp → Prop := fun i H => Le h H1 H ∧ H D = some (.dK (((List.range i).filter f).map fun i => (kf i, v i)))
  refine ⟨fun i m H => m = n - i ∧ i ≤ n ∧ Pv i H, ⟨n, by simp, Nat.zero_le _, Le.new g1 hD, upd_same⟩, ?_⟩
  rintro i m H ⟨rfl, hi, p⟩
  have q := hG H p.1.s
  by_cases hlt : i < n
  · refine .inr ⟨w.goes i H hlt q, Pv (i + 1), fun H' p' => ⟨n - (i + 1), by omega, rfl, hlt, p'⟩, fun x H' y => ?_⟩
    obtain ⟨le, eD⟩ := p
    have len : (((List.range i).filter f).map fun i => (kf i, v i)).length ≤ i := by
      rw [List.length_map]
      exact Nat.le_trans (List.length_filter_le _ _) (by simp)
    refine hs i x H H' hlt le ⟨_, eD⟩ (w.yields i H x H' hlt q y) (fun y z H5 => ∃ kvs k, y = kV k ∧ H5 D = some (.dK kvs) ∧ kvs.length < sizeLine ∧ Pv (i + 1) (upd H5 D (.dK (putK kvs k z)))) (Pv (i + 1)) (fun H4 le4 e4 hf => ?_) (fun H4 le4 e4 hf => ?_)
    · refine ⟨_, kf i, rfl, e4.trans eD, by rw [sizeLine_eq]; omega, (le.trans le4).mut g1 hD, ?_⟩
      rw [upd_same]
      unfold putK
      rw [if_neg ?_, List.range_succ, List.filter_append, List.map_append, List.filter_cons, if_pos hf]
      · rfl
      · intro z
        rw [List.any_eq_true] at z
        obtain ⟨kv, hkv, e⟩ := z
        obtain ⟨j, hj, rfl⟩ := List.mem_map.mp hkv
        obtain ⟨j1, j2⟩ := List.mem_filter.mp hj
        have j3 := List.mem_range.mp j1
        have := inj j i (by omega) hlt j2 hf (of_decide_eq_true e)
        omega
    · refine ⟨le.trans le4, ?_⟩
      rw [e4, eD, List.range_succ, List.filter_append, List.map_append, List.filter_cons, if_neg (by rw [hf]; decide)]
      simp
  · have e : i = n := by omega
    subst e
    exact .inl ⟨w.stops H q, hd H p.1 (by rw [cut_ne nD]; exact p.2)⟩
theorem valV_mem {kf : Nat → Key} {v : Nat → V} {i : Nat} : ∀ {L : List Nat}, (∀ a ∈ L, kf a = kf i → a = i) → i ∈ L → valV (L.map fun i => (kf i, v i)) (kf i) = some (v i)
  | [], _, h => by simp at h
  | a :: r, inj, h => by
    rw [List.map_cons]
    by_cases e : kf a = kf i
    · rw [valV_pos (p := (kf a, v a)) e]
      have := inj a (by simp) e
      rw [this]
    · rw [valV_neg (p := (kf a, v a)) e]
      refine valV_mem (fun b hb => inj b (List.mem_cons_of_mem _ hb)) ?_
      rcases List.mem_cons.mp h with z | z
      · rw [z] at e; exact absurd rfl e
      · exact z
theorem valV_not {kf : Nat → Key} {v : Nat → V} {k : Key} : ∀ {L : List Nat}, (∀ a ∈ L, kf a ≠ k) → valV (L.map fun i => (kf i, v i)) k = none
  | [], _ => rfl
  | a :: r, h => by
    rw [List.map_cons, valV_neg (p := (kf a, v a)) (h a (by simp))]
    exact valV_not fun b hb => h b (List.mem_cons_of_mem _ hb)
section
variable {P : Program} {w : World} {K : PySem.W.Frag} {mg : Str → Option Value} {base : Heap} {C : Addr}
def keyOf (t : TS) (i : Nat) : Key := .inl (t.chosen.getD i 0)
theorem val_known {B : Sx.Prob} {t : TS} (G : Good B t) {s : Nat} (hs : s < B.n) :
    (valV (((List.range B.m).filter fun i => decide (t.chosen.getD i 0 < (B.n : Int))).map fun i => (keyOf t i, V.int (cell t.rows i (B.n + B.m)))) (.inl (s : Int))).getD (.int 0) = .int (valS t B.m B.n s) := by
  by_cases z : ∃ i, i < B.m ∧ t.chosen.getD i 0 = (s : Int)
  · obtain ⟨i, hi, e⟩ := z
    have em : (Sum.inl (s : Int) : Key) = keyOf t i := by unfold keyOf; rw [e]
    rw [em, valV_mem (fun a ha ka => ?_) (List.mem_filter.mpr ⟨List.mem_range.mpr hi, decide_eq_true (by omega)⟩)]
    · have := G.valS_at hi
      rw [e, Int.toNat_natCast] at this
      rw [this]; rfl
    · have ha2 := List.mem_range.mp (List.mem_filter.mp ha).1
      unfold keyOf at ka
      exact G.I.inj ha2 hi (congrArg Int.toNat (Sum.inl.inj ka))
  · rw [valV_not fun a ha ka => ?_, Sx.valS_none fun i hi e => ?_]
    · rfl
    · have := G.cn i hi
      exact z ⟨i, hi, by omega⟩
    · unfold keyOf at ka
      exact z ⟨a, List.mem_range.mp (List.mem_filter.mp ha).1, Sum.inl.inj ka⟩
def spTimes (K : PySem.W.Frag) (C : Addr) : Sp := fun vs H Q _ => ∃ (p cc : Addr) (t : TS) (B : Sx.Prob), vs = [.ref p] ∧ TabAt K C H p cc t ∧ Good B t ∧ Shape t B.m (B.n + B.m + 1) ∧ 0 < gcdL (vals t B.m B.n) ∧
  ∀ D H', Same H H' → H' D = some (.lst ((times t B.m B.n).map V.int)) → Q (.ref D) H'
theorem ok_times {f : Addr} {fd : FuncData} (F : Fun K "times_in" "times_in" s_times_in f fd) (T : TT K mg C) (D_divisor_of : Df P w K mg base 1 "divisor_of" ["several"] (spDivisor K)) : FnOk P w K mg base CX0 2 f fd ["table"] (spTimes K C) := by
  refine F.ok sc_times_in (fun vs H Q E h => ?_) (fun cdv A outer s H vs Q E hr h => ?_)
  · obtain ⟨p, cc, t, B, rfl, _⟩ := h
    rfl
  · obtain ⟨p, cc, t, B, rfl, tab, G, S, gp, k⟩ := h
    refine ⟨_, (pss_cons (ps_set (i := 1) sc_times_in.nd rfl (by first | exact Or.inl rfl | exact Or.inr rfl) (pe_dc (own := [("spot", 3), ("row", 4)]) (g := gTup K 2 (gCons (gName 3) (gCons (gName 4) gNil))) (tt := _) rfl sc_times_in.nd (kzip K T.b_zip (pa_cons (kfld K (pv 0)) (pa_cons (kfld K (pv 0)) pa_nil))) (blkOk_by (own := [("spot", 3), ("row", 4)]) (N := ["table", "known", "least", "spot", "row"]) (sc := defScope s_times_in) (by decide +kernel)) (fun _ _ _ _ _ => (kg_tup K (pgs_cons (pg_name (i := 3) sc_times_in.nd rfl (Or.inl rfl)) (pgs_cons (pg_name (i := 4) sc_times_in.nd rfl (Or.inl rfl)) pgs_nil)))) (fun _ _ _ _ _ => (by exact (pts_one (pt_cmpR op_lt (pv 3) (kfld K (pv 0)) (nomark _))))) (fun _ _ _ _ _ => (pv 3)) (fun _ _ _ _ _ => (pe_ix (kixL K) (pv 4) (pe_un un_neg pe_int) (fun _ _ => rfl)))))
      (pss_cons (ps_set (i := 2) sc_times_in.nd rfl (by first | exact Or.inl rfl | exact Or.inr rfl) (pe_df D_divisor_of (hr.mono (by decide)) (by rfl) (pa_cons (pe_listValues rfl (pv 1) (by rfl) T.b_list (by decide +kernel)) pa_nil)))
      (pss_one (ps_ret (pe_lc (own := [("spot", 3)]) (g := gName 3) (tt := tYes) rfl sc_times_in.nd (pi_range1 (by rfl) T.b_range (pa_cons (kfld K (pv 0)) pa_nil)) (blkOk_by (own := [("spot", 3)]) (N := ["table", "known", "least", "spot", "row"]) (sc := defScope s_times_in) (by decide +kernel)) (fun _ _ _ _ _ => (pg_name (i := 3) sc_times_in.nd rfl (Or.inl rfl))) (fun _ _ _ _ _ => pts_nil) (fun _ _ _ _ _ => (pe_op op_fdivW (pe_dget2 (Nat.lt_of_le_of_lt (Nat.add_le_add_left (by decide : (1 : Nat) ≤ 64) _) hr.units) (pv 1) (pv 3) pe_int ⟨rfl, rfl, rfl, rfl⟩) (pv 2)))))))), ?_⟩
    obtain ⟨⟨dx, r, l, e1, e2, e3⟩, e4⟩ := id tab
    obtain ⟨rs, hRr, hrl, hrr⟩ := id e2
    have hc := S.cl
    have hrl2 := S.rl
    have hmm := S.hm
    have hNN := S.hN
    refine ⟨.ref p, rfl, p, C, dx, _, _, rfl, e1, T.cl, T.n_chosen, tf_chosen, .ref p, rfl, p, C, dx, _, _, rfl, e1, T.cl, T.n_rows, tf_rows, cc, r, _, _, rfl, .inl (.inl e4), cut_same.seq hRr, ?_⟩
    refine fun D nD => dc_sel (h := Hid.no) (walk_zip (n := B.m) (xs := t.chosen.map V.int) (ys := rs.map V.ref) (by rw [List.length_map, List.length_map]; omega)) nD trivial (by omega) (fun i => decide (t.chosen.getD i 0 < (B.n : Int))) (keyOf t) (fun i => .int (cell t.rows i (B.n + B.m))) (fun i j hi hj _ _ e => ?_) (fun H' s' => (by rw [cut_no, cut_no] at s'; exact ⟨s'.seq (.inl (.inl e4)), s'.seq (cut_same.seq hRr)⟩)) ?_ ?_
    · unfold keyOf at e
      exact G.I.inj hi hj (congrArg Int.toNat (Sum.inl.inj e))
    · rintro j x H3 H3' hj le3 ⟨kvs, hD⟩ ⟨T1, x1, x2, rfl, nT, rfl, w1, w2⟩ Q' N kq kn
      have w1' : (t.chosen.map V.int)[j]? = some x1 := w1
      have w2' : (rs.map V.ref)[j]? = some x2 := w2
      have x1e : x1 = .int (t.chosen.getD j 0) := by
        have : (t.chosen.map V.int)[j]? = some (.int (t.chosen.getD j 0)) := by simp [show j < t.chosen.length by omega]
        exact Option.some.inj (w1'.symm.trans this)
      subst x1e
      obtain ⟨b, rfl, hi2, hb⟩ := RowsL.nth (a := r) hrl hrr w2'
      have le4 : Le Hid.no H3 (upd H3 T1 (.tup [.int (t.chosen.getD j 0), .ref b])) := Le.new trivial nT
      have s4 := (le3.trans le4).no
      have eD : (upd H3 T1 (.tup [.int (t.chosen.getD j 0), .ref b])) D = H3 D := upd_ne (ne_of_none hD nT)
      refine ⟨T1, _, rfl, .inl (.inl upd_same), rfl, _, _, rfl, _, _, rfl, rfl, rfl, ?_⟩
      refine ⟨_, rfl, .ref p, rfl, p, C, dx, _, _, rfl, s4 _ _ e1, T.cl, T.n_many, tf_many, _, _, rfl, rfl, _, rfl, ?_⟩
      rw [G.n]
      cases c : decide (t.chosen.getD j 0 < (B.n : Int)) with
      | false => exact iteF (kn _ le4 eD c)
      | true =>
        have la : atI ((t.rows.getD j []).map V.int) (-1) = some (.int (cell t.rows j (B.n + B.m))) := by
          have h1 := S.re j hj
          have h2 := int_last (ns := t.rows.getD j []) (by omega)
          rw [h1] at h2
          exact h2
        exact iteT ⟨_, rfl, .ref b, rfl, 1, rfl, b, _, _, _, rfl, rfl, s4.seq (cut_same.seq hb), la, kq _ le4 eD c⟩
    intro H4 le4 eM
    rw [cut_no] at eM
    have s4 := le4.no
    refine ⟨_, rfl, D, _, rfl, eM, fun q nq => ?_⟩
    have ev : (((List.range B.m).filter fun i => decide (t.chosen.getD i 0 < (B.n : Int))).map fun i => (keyOf t i, V.int (cell t.rows i (B.n + B.m)))).map (·.2) = (vals t B.m B.n).map V.int := by
      unfold vals
      rw [List.map_map, List.map_map]; rfl
    rw [ev]
    have s5 := same_new (o := .lst ((vals t B.m B.n).map V.int)) nq
    refine ⟨q, vals t B.m B.n, rfl, .inl (.inl upd_same), ?_⟩
    have gb : gcdL (vals t B.m B.n) < 2 ^ 4000 := by
      by_cases z : ∃ y ∈ vals t B.m B.n, y ≠ 0
      · obtain ⟨y, hy, ny⟩ := z
        have h1 := Sx.gcdL_le hy ny
        obtain ⟨i, hi, rfl⟩ := List.mem_map.mp hy
        have h2 := S.bT i (List.mem_range.mp (List.mem_filter.mp hi).1) (B.n + B.m)
        omega
      · have : gcdL (vals t B.m B.n) = 0 := Sx.gcdL_zero fun y hy => Decidable.byContradiction fun c => z ⟨y, hy, c⟩
        omega
    refine ⟨.ref p, rfl, p, C, dx, _, _, rfl, s5 _ _ (s4 _ _ e1), T.cl, T.n_many, tf_many, _, rfl, by have := G.n; omega, by have := G.n; omega, ?_⟩
    rw [Int.toNat_natCast, G.n]
    refine fun D2 nD2 => lc_ints (h := Hid.no) (walk_range (lo := 0) (n := B.n)) nD2 trivial (by omega) (fun s => valS t B.m B.n s / ((gcdL (vals t B.m B.n) : Nat) : Int)) (fun _ _ => trivial) ?_ ?_
    · rintro s x H3 H3' hs le3 _ ⟨rfl, rfl⟩ Q' kk
      have s6 := le3.no
      have eK : H3' D = some (.dK _) := s6 _ _ (s5 _ _ eM)
      have gd : DGet H3' D (.int (0 + (s : Int))) (valV (((List.range B.m).filter fun i => decide (t.chosen.getD i 0 < (B.n : Int))).map fun i => (keyOf t i, V.int (cell t.rows i (B.n + B.m)))) (.inl (s : Int))) := by
        rw [Int.zero_add]
        exact DGet.k (k := .inl (s : Int)) eK
      refine ⟨rfl, .ref D, rfl, D, rfl, .inl ⟨_, .inl eK⟩, _, rfl, _, gd, ?_⟩
      rw [val_known G hs]
      exact ⟨_, rfl, _, _, rfl, rfl, wide_div (by omega) (b := 4000) (by omega) (by decide) (by decide), kk H3' (Le.refl trivial) rfl⟩
    intro H6 le6 eM6
    rw [cut_no] at eM6
    exact k D2 H6 ((s4.trans s5).trans le6.no) eM6
end
end Ls
end
section
set_option maxRecDepth 100000
namespace Ls
open PySem PySem.Spec PyProof.Rows L2
theorem typeCall_zip_n (vs : List Value) : checkTypeCall "zip" ⟨vs, []⟩ = pure () := by kernel_rfl
theorem newCall_zip_n : ∀ vs : List Value, checkBuiltinCall "zip.__new__" ⟨.type "zip" :: vs, []⟩ = pure ()
  | [] => by kernel_rfl
  | a :: r => by kernel_rfl
theorem args_object_init_n (obj : Value) : ∀ vs : List Value, argsOk "object.__init__" ⟨obj :: vs, []⟩ 
  | [] => by unfold argsOk; kernel_rfl
  | a :: r => by unfold argsOk; kernel_rfl
abbrev ZR (h : Heap) (z TI TO : Nat) (f0 : Value) (f1 : Bool) : Prop := h.get? z = some { cls := .type "zip", dict := none, data := .fields #[f0, .bool f1, .bool false, .ref TI, .ref TO], slots := #[] }
abbrev TupA (h : Heap) (T : Addr) (xs : Array Value) : Prop := h.get? T = some { cls := .type "tuple", data := .seq xs }
def Its (h : Heap) (b : Nat) (ls : List Nat) (i k : Nat) : Prop := ∀ (j l : Nat), ls[j]? = some l → h.IsListIter (b + j) l (if j < k then i + 1 else i)
def refs (b n : Nat) : List Value := (List.range n).map fun j => .ref (b + j)
theorem refs_len {b n : Nat} : (refs b n).length = n := by simp [refs]
theorem refs_at {b n j : Nat} (h : j < n) : (refs b n)[j]? = some (.ref (b + j)) := by
  unfold refs
  rw [List.getElem?_map, List.getElem?_range h]; rfl
section
variable {prog : Program} {w : World} {A : Around} {E : Value → Shared → Prop} {s : Shared}
theorem alive_any {a : Addr} {Q : Option Obj → Shared → Prop} (h : Q (s.heap.get? a) s) : wpAny (model prog w) A (loadIfAlive a) Q E s := fun _ _ _ => h
theorem free_zip {z TI TO : Nat} {f0 : Value} {f1 : Bool} {Q : Bool → Shared → Prop} (hz : ZR s.heap z TI TO f0 f1) (hf : f0 = .none ∨ ∃ T : Addr, f0 = rawInt T) (h1 : Q true s)
    (h2 : ∀ h', ZR h' z TI TO f0 true → Heap.SameBut z s.heap h' → Q false { s with heap := h' }) : wpAny (model prog w) A (Builtin.SmallTypes.ownedTupleIsFree (.ref z)) Q E s := by
  unfold Builtin.SmallTypes.ownedTupleIsFree
  refine wpAny_bind (wpAny_field hz rfl (x := f0) rfl ?_)
  rcases hf with hf | ⟨T, hf⟩
  · subst hf
    exact wpAny_pure h1
  · subst hf
    show wpAny _ _ (loadIfAlive ((T : Int).toNat) >>= _) _ _ _
    rw [Int.toNat_natCast]
    refine wpAny_bind (alive_any ?_)
    cases q : s.heap.get? T with
    | none =>
      simp only [Option.isNone_none, if_true]
      exact wpAny_pure h1
    | some o =>
      simp only [Option.isNone_some, Bool.false_eq_true, if_false]
      refine wpAny_bind (wpAny_field hz rfl (x := .bool f1) rfl ?_)
      cases f1 with
      | true =>
        rw [if_neg (show ¬ ((Value.bool true != Value.bool true) = true) from Bool.false_ne_true)]
        exact wpAny_pure (h2 s.heap hz (Heap.SameBut.refl _ _))
      | false =>
        rw [if_pos (show (Value.bool false != Value.bool true) = true from rfl)]
        exact wpAny_bind (wpAny_setField_rec hz (by simp) fun h₁ hz₁ hs₁ => wpAny_pure (h2 h₁ hz₁ hs₁))
/-- the i-th row of the lists ls -/
def RowOf (h : Heap) (ls : List Nat) (i : Nat) (us : List Value) : Prop := us.length = ls.length ∧ ∀ (j l : Nat) (u : Value), ls[j]? = some l → us[j]? = some u → ∃ its : Array Value, h.IsList l its ∧ its[i]? = some u
/-- whatever is not the iterator's own stays -/
def Kp (b n : Nat) (h h' : Heap) : Prop := ∀ (c : Nat) (o : Obj), (c < b ∨ b + n + 3 ≤ c) → h.get? c = some o → h'.get? c = some o
theorem Kp.trans {b n : Nat} {h h1 h2 : Heap} (x : Kp b n h h1) (y : Kp b n h1 h2) : Kp b n h h2 := fun c o q e => y c o q (x c o q e)
theorem Kp.but {b n a : Nat} {h h' : Heap} (x : Heap.SameBut a h h') (q : b ≤ a) (q2 : a < b + n + 3) : Kp b n h h' := fun c o e g => (x.2 c (show (c : Nat) ≠ a by omega)).trans g
theorem Kp.refl (b n : Nat) (h : Heap) : Kp b n h h := fun _ _ _ e => e
theorem RowOf.kp {b n i : Nat} {h h' : Heap} {ls : List Nat} {us : List Value} (r : RowOf h ls i us) (k : Kp b n h h') (hl : ∀ l ∈ ls, l < b) : RowOf h' ls i us :=
  ⟨r.1, fun j l u e1 e2 => let ⟨its, p, q⟩ := r.2 j l u e1 e2; ⟨its, p.at fun o e => k l o (.inl (hl l (List.mem_of_getElem? e1))) e, q⟩⟩
theorem Its.step {h h' : Heap} {b i k : Nat} {ls : List Nat} {l : Nat} (x : Its h b ls i k) (e : ls[k]? = some l) (n : h'.IsListIter (b + k) l (i + 1)) (s : Heap.SameBut (b + k) h h') : Its h' b ls i (k + 1) := fun j l' ej => by
  by_cases q : j = k
  · subst q
    rw [e] at ej; cases ej
    rw [if_pos (Nat.lt_succ_self _)]; exact n
  · have := x j l' ej
    have w : (if j < k then i + 1 else i) = (if j < k + 1 then i + 1 else i) := by
      by_cases z : j < k
      · rw [if_pos z, if_pos (by omega)]
      · rw [if_neg z, if_neg (by omega)]
    rw [← w]
    have nq : b + j ≠ b + k := by omega
    exact this.extBut s.extBut nq
theorem Its.at {h h' : Heap} {b i k : Nat} {ls : List Nat} (x : Its h b ls i k) (e : ∀ j, j < ls.length → ∀ o, h.get? (b + j) = some o → h'.get? (b + j) = some o) : Its h' b ls i k := fun j l ej => (x j l ej).at (e j (List.getElem?_eq_some_iff.mp ej).1)
theorem Its.next {h : Heap} {b i : Nat} {ls : List Nat} (x : Its h b ls i ls.length) : Its h b ls (i + 1) 0 := fun j l ej => by
  have := x j l ej
  rw [if_pos (List.getElem?_eq_some_iff.mp ej).1] at this
  rw [if_neg (Nat.not_lt_zero _)]; exact this
theorem nextA {b i n : Nat} {TI TO z : Nat} {f0 : Value} {f1 : Bool} {ls : List Nat} {us : List Value} {Q : Value → Shared → Prop} (en : ls.length = n) (hn : 0 < n) (eTI : TI = b + n) (eTO : TO = b + n + 1) (ez : z = b + n + 2) (hlt : z < s.heap.objs.size) (hl : ∀ l ∈ ls, l < b) (hb : n < 1000)
    (hz : ZR s.heap z TI TO f0 f1) (hf : f0 = .none ∨ ∃ T : Addr, f0 = rawInt T) (hTI : TupA s.heap TI (refs b n).toArray) (hTO : ∃ xs : List Value, xs.length = n ∧ TupA s.heap TO xs.toArray) (hi : Its s.heap b ls i 0) (hr : RowOf s.heap ls i us)
    (hQ : ∀ h' f1', ZR h' z TI TO (rawInt s.heap.objs.size) f1' ∨ ZR h' z TI TO f0 f1' → TupA h' TI (refs b n).toArray → (∃ xs : List Value, xs.length = n ∧ TupA h' TO xs.toArray) → Its h' b ls (i + 1) 0 → TupA h' s.heap.objs.size us.toArray → h'.objs.size = s.heap.objs.size + 1 →
      Kp b n s.heap h' → Q (.ref s.heap.objs.size) { s with heap := h' }) :
    wpAny (model prog w) A (Builtin.«zip.__next__» ⟨[.ref z], []⟩) (fun fin s' => ∃ v, fin = .done (.ret v) ∧ Q v s') E s := by
  show wpAny _ _ (field (.ref z) 2 >>= _) _ _ _
  refine wpAny_bind (wpAny_field hz rfl (x := .bool false) rfl ?_)
  show wpAny _ _ (field (.ref z) 3 >>= _) _ _ _
  refine wpAny_bind (wpAny_field hz rfl (x := .ref TI) rfl ?_)
  refine wpAny_bind (wpAny_seqItems hTI rfl ?_)
  have hr1 : us.length = n := hr.1.trans en
  have nTIz : TI ≠ z := by omega
  have nTOz : TO ≠ z := by omega
  have niz : ∀ j, j < ls.length → b + j ≠ z := fun j hj => by omega
  have nkz : ∀ c : Nat, c < b ∨ b + n + 3 ≤ c → c ≠ z := fun c hc => by omega
  have ne : (refs b n).toArray.isEmpty = false := by
    rw [List.isEmpty_toArray]
    cases q : refs b n with
    | nil => have := refs_len (b := b) (n := n); rw [q] at this; simp at this; omega
    | cons _ _ => rfl
  simp only [ne, Bool.false_eq_true, if_false]
  refine wpAny_bind (free_zip hz hf ?_ fun h₁ hz₁ hs₁ => ?_)
  · simp only [if_true]
    refine wpAny_bind (wpAny_rule ?_)
    refine wpAny_bind (wpAny_field hz rfl (x := .ref TO) rfl ?_)
    refine wpAny_bind (wpAny_setField_rec hz (by simp) fun h₁ hz₁ hs₁ => ?_)
    replace hz₁ : ZR h₁ z TI TO .ellipsis f1 := hz₁
    obtain ⟨xs0, lx0, hTO⟩ := hTO
    have k1 : Kp b n s.heap h₁ := Kp.but hs₁ (by omega) (by omega)
    refine wpAny_bind (wpAny_mono (wpAny_forIn_list _ (fun rest r s' => ∃ (k : Nat) (h : Heap) (xs : List Value), r = (none, ()) ∧ rest = ((refs b n).zipIdx).drop k ∧ s' = { s with heap := h } ∧ ZR h z TI TO .ellipsis f1 ∧ TupA h TI (refs b n).toArray ∧ xs.length = n ∧ (∀ j, j < k → xs[j]? = us[j]?) ∧ TupA h TO xs.toArray ∧ Its h b ls i k ∧ Kp b n s.heap h ∧ h.objs.size = s.heap.objs.size ∧ k ≤ n)
      (fun r s' => ∃ (h : Heap), r = (none, ()) ∧ s' = { s with heap := h } ∧ ZR h z TI TO .ellipsis f1 ∧ TupA h TI (refs b n).toArray ∧ TupA h TO us.toArray ∧ Its h b ls i n ∧ Kp b n s.heap h ∧ h.objs.size = s.heap.objs.size) ?_ ?_ _ _ ⟨0, h₁, xs0, rfl, rfl, rfl, hz₁, (hs₁.2 TI (by omega)).trans hTI, lx0, fun j q => absurd q (Nat.not_lt_zero _), (hs₁.2 TO (by omega)).trans hTO, hi.at fun j q o e => (hs₁.2 _ (niz j q)).trans e, k1, hs₁.1, Nat.zero_le _⟩) ?_ (fun _ _ q => q))
    · rintro x rest r s' ⟨k, h, xs, er, el, es, z1, z2, lx, z3, z4, z5, z6, z7, _⟩
      subst er es
      have hk : k < n := by
        refine Nat.lt_of_not_le fun q => ?_
        rw [List.drop_eq_nil_of_le (by simp [refs_len]; omega)] at el
        cases el
      rw [List.drop_eq_getElem_cons (by simp [refs_len]; omega)] at el
      obtain ⟨ex, el2⟩ := List.cons.inj el
      have ex' : x = (.ref (b + k), k) := by
        rw [ex, List.getElem_zipIdx]
        have := refs_at (b := b) hk
        rw [List.getElem?_eq_getElem (by rw [refs_len]; exact hk)] at this
        rw [Option.some.inj this]; simp
      subst ex'
      obtain ⟨l, hl1⟩ : ∃ l, ls[k]? = some l := ⟨ls[k]'(by omega), List.getElem?_eq_getElem (by omega)⟩
      obtain ⟨u, hu1⟩ : ∃ u, us[k]? = some u := ⟨us[k]'(by omega), List.getElem?_eq_getElem (by omega)⟩
      obtain ⟨its, p, q⟩ := (hr.kp z6 hl).2 k l u hl1 hu1
      have it := z5 k l hl1
      rw [if_neg (Nat.lt_irrefl _)] at it
      refine wpAny_bind (wpAny_onRaise ?_)
      show wpAny _ _ (Builtin.SmallTypes.nextOf (.ref (b + k)) >>= _) _ _ _
      refine wpAny_bind (wpAny_nextOf_list_item (s := { s with heap := h }) it p q fun h2 it2 s2 => wpAny_pure ?_)
      have nTO : TO ≠ b + k := by omega
      have t2 : TupA h2 TO xs.toArray := (s2.2 TO nTO).trans z4
      refine wpAny_bind (wpAny_seqItems (s := { s with heap := h2 }) t2 rfl ?_)
      refine wpAny_bind (wpAny_updateSeq (s := { s with heap := h2 }) t2 rfl ?_ (by rw [List.size_toArray, sizeLine_eq]; omega) (by rw [Array.size_setIfInBounds, List.size_toArray, sizeLine_eq]; omega))
      have s3 : Heap.SameBut TO h2 (h2.update TO (Obj.mapSeq (·.setIfInBounds k u))) := Heap.SameBut.update ..
      have t3 : TupA (h2.update TO (Obj.mapSeq (·.setIfInBounds k u))) TO (xs.set k u).toArray := by
        rw [TupA, Heap.get?_update_self _ t2 rfl]
        simp [Obj.mapSeq]
      refine wpAny_bind (wpAny_letGo (wpAny_pure ⟨k + 1, _, xs.set k u, rfl, el2, rfl, ?_, ?_, by simp [lx], fun j hj => ?_, t3, ?_, ?_, ?_, hk⟩))
      · have n1 : z ≠ b + k := by omega
        have n2 : z ≠ TO := by omega
        exact (s3.2 z n2).trans ((s2.2 z n1).trans z1)
      · have n1 : TI ≠ b + k := by omega
        have n2 : TI ≠ TO := by omega
        exact (s3.2 TI n2).trans ((s2.2 TI n1).trans z2)
      · by_cases e : j = k
        · subst e
          rw [List.getElem?_set_self (by omega), hu1]
        · rw [List.getElem?_set_ne (Ne.symm e)]
          exact z3 j (by omega)
      · refine (z5.step hl1 it2 s2).at fun j hj o e => ?_
        have n2 : b + j ≠ TO := by omega
        exact (s3.2 _ n2).trans e
      · exact z6.trans ((Kp.but s2 (by omega) (by omega)).trans (Kp.but s3 (by omega) (by omega)))
      · rw [s3.1, s2.1]; exact z7
    · rintro r s' ⟨k, h, xs, er, el, es, z1, z2, lx, z3, z4, z5, z6, z7, kn⟩
      have hk : k = n := by
        have := congrArg List.length el
        simp [refs_len] at this; omega
      subst hk
      have exs : xs = us := by
        refine List.ext_getElem? fun j => ?_
        by_cases q : j < k
        · exact z3 j q
        · rw [List.getElem?_eq_none (by omega), List.getElem?_eq_none (by omega)]
      subst exs
      exact ⟨h, er, es, z1, z2, z4, z5, z6, z7⟩
    · rintro r s' ⟨h, er, es, z1, z2, z4, z5, z6, z7⟩
      subst er es
      refine wpAny_bind (wpAny_seqItems (s := { s with heap := h }) z4 rfl ?_)
      refine wpAny_bind (wpAny_newTuple (s := { s with heap := h }) ?_ (by rw [sizeLine_eq]; show us.length ≤ _; omega))
      show wpAny _ _ (Builtin.SmallTypes.ownedTupleHandOut (.ref z) (.ref h.objs.size) >>= _) _ _ _
      refine wpAny_bind ?_
      unfold Builtin.SmallTypes.ownedTupleHandOut
      have hz₆ : ZR (h.push { cls := .type "tuple", data := .seq us.toArray }) z TI TO .ellipsis f1 := Heap.get?_push_of_some _ z1
      refine wpAny_bind (wpAny_setField_rec (s := { s with heap := h.push { cls := .type "tuple", data := .seq us.toArray } }) hz₆ (by simp) fun h₇ hz₇ hs₇ => ?_)
      replace hz₇ : ZR h₇ z TI TO (rawInt h.objs.size) f1 := hz₇
      refine wpAny_setField_rec (s := { s with heap := h₇ }) hz₇ (by simp) fun h₈ hz₈ hs₈ => ?_
      replace hz₈ : ZR h₈ z TI TO (rawInt h.objs.size) false := hz₈
      have hzl : z < h.objs.size := by rw [z7]; exact hlt
      have up : ∀ c o, c ≠ z → h.get? c = some o → h₈.get? c = some o := fun c o c1 e => hs₈.extBut _ _ c1 (hs₇.extBut _ _ c1 (Heap.get?_push_of_some _ e))
      have hT₈ : TupA h₈ h.objs.size us.toArray := hs₈.extBut _ _ (Nat.ne_of_gt hzl) (hs₇.extBut _ _ (Nat.ne_of_gt hzl) (Heap.get?_push_size _ rfl))
      have hz8 : h₈.objs.size = h.objs.size + 1 := by rw [hs₈.1, hs₇.1, Heap.size_push]
      rw [z7] at hz₈ hT₈ hz8
      refine wpAny_pure ⟨_, rfl, ?_⟩
      show Q (.ref h.objs.size) _
      rw [z7]
      refine hQ h₈ false (.inl hz₈) (up TI _ nTIz z2) ⟨us, hr1, up TO _ nTOz z4⟩ ((by rw [← en] at z5; exact z5.next : Its h b ls (i + 1) 0).at fun j hj o e => up _ o (niz j hj) e) hT₈ hz8 (z6.trans fun c o q e => up c o (nkz c q) e)
  · simp only [Bool.false_eq_true, if_false]
    have k1 : Kp b n s.heap h₁ := Kp.but hs₁ (by omega) (by omega)
    rw [← Array.forIn_toList]
    refine wpAny_bind (wpAny_mono (wpAny_forIn_list _ (fun rest r s' => ∃ (k : Nat) (h : Heap), r = (none, (us.take k).toArray) ∧ rest = (refs b n).drop k ∧ s' = { s with heap := h } ∧ ZR h z TI TO f0 true ∧ (∀ c : Nat, b + n ≤ c → c < b + n + 2 → h.get? c = s.heap.get? c) ∧ Its h b ls i k ∧ Kp b n s.heap h ∧ h.objs.size = s.heap.objs.size ∧ k ≤ n)
      (fun r s' => ∃ (h : Heap), r = (none, us.toArray) ∧ s' = { s with heap := h } ∧ ZR h z TI TO f0 true ∧ (∀ c : Nat, b + n ≤ c → c < b + n + 2 → h.get? c = s.heap.get? c) ∧ Its h b ls i n ∧ Kp b n s.heap h ∧ h.objs.size = s.heap.objs.size) ?_ ?_ _ _ ⟨0, h₁, rfl, rfl, rfl, hz₁, fun c q1 q2 => hs₁.2 c (show (c : Nat) ≠ z by omega), hi.at fun j q o e => (hs₁.2 _ (niz j q)).trans e, k1, hs₁.1, Nat.zero_le _⟩) ?_ (fun _ _ q => q))
    · rintro x rest r s' ⟨k, h, er, el, es, z1, z2, z5, z6, z7, _⟩
      subst er es
      have hk : k < n := by
        refine Nat.lt_of_not_le fun q => ?_
        rw [List.drop_eq_nil_of_le (by simp [refs_len]; omega)] at el
        cases el
      rw [List.drop_eq_getElem_cons (by simp [refs_len]; omega)] at el
      obtain ⟨ex, el2⟩ := List.cons.inj el
      have ex' : x = .ref (b + k) := by
        rw [ex]
        have := refs_at (b := b) hk
        rw [List.getElem?_eq_getElem (by rw [refs_len]; exact hk)] at this
        exact Option.some.inj this
      subst ex'
      obtain ⟨l, hl1⟩ : ∃ l, ls[k]? = some l := ⟨ls[k]'(by omega), List.getElem?_eq_getElem (by omega)⟩
      obtain ⟨u, hu1⟩ : ∃ u, us[k]? = some u := ⟨us[k]'(by omega), List.getElem?_eq_getElem (by omega)⟩
      obtain ⟨its, p, q⟩ := (hr.kp z6 hl).2 k l u hl1 hu1
      have it := z5 k l hl1
      rw [if_neg (Nat.lt_irrefl _)] at it
      refine wpAny_bind (wpAny_holding ?_)
      show wpAny _ _ (Builtin.SmallTypes.nextOf (.ref (b + k)) >>= _) _ _ _
      refine wpAny_bind (wpAny_nextOf_list_item (s := { s with heap := h }) it p q fun h2 it2 s2 => wpAny_pure ?_)
      refine wpAny_pure ⟨k + 1, h2, ?_, el2, rfl, ?_, fun c q1 q2 => (s2.2 c (show (c : Nat) ≠ b + k by omega)).trans (z2 c q1 q2), z5.step hl1 it2 s2, z6.trans (Kp.but s2 (by omega) (by omega)), s2.1.trans z7, hk⟩
      · rw [List.take_add_one, hu1]; simp
      · have n1 : z ≠ b + k := by omega
        exact (s2.2 z n1).trans z1
    · rintro r s' ⟨k, h, er, el, es, z1, z2, z5, z6, z7, kn⟩
      have hk : k = n := by
        have := congrArg List.length el
        simp [refs_len] at this; omega
      subst hk
      rw [List.take_of_length_le (by omega)] at er
      exact ⟨h, er, es, z1, z2, z5, z6, z7⟩
    · rintro r s' ⟨h, er, es, z1, z2, z5, z6, z7⟩
      subst er es
      show wpAny _ _ (newTuple us >>= _) _ _ _
      refine wpAny_bind (wpAny_newTuple (s := { s with heap := h }) ?_ (by rw [sizeLine_eq]; show us.length ≤ _; omega))
      refine wpAny_pure ⟨_, rfl, ?_⟩
      show Q (.ref h.objs.size) _
      have hT : TupA (h.push { cls := .type "tuple", data := .seq us.toArray }) h.objs.size us.toArray := Heap.get?_push_size _ rfl
      have hz4 : (h.push { cls := .type "tuple", data := .seq us.toArray }).objs.size = h.objs.size + 1 := Heap.size_push ..
      rw [z7] at hT hz4 ⊢
      refine hQ _ true (.inr (Heap.get?_push_of_some _ z1)) (Heap.get?_push_of_some _ ((z2 TI (by omega) (by omega)).trans hTI)) (let ⟨xs, e1, e2⟩ := hTO; ⟨xs, e1, Heap.get?_push_of_some _ ((z2 TO (by omega) (by omega)).trans e2)⟩)
        ((by rw [← en] at z5; exact z5.next : Its h b ls (i + 1) 0).at fun j hj o e => Heap.get?_push_of_some _ e) hT hz4 (z6.trans fun c o q e => Heap.get?_push_of_some _ e)
theorem nextE {b i n : Nat} {TI TO z : Nat} {f0 : Value} {f1 : Bool} {ls : List Nat} {l0 : Nat} {its : Array Value} {Q : Fin → Shared → Prop} (hh : A.handled = none) (en : ls.length = n) (eTI : TI = b + n) (eTO : TO = b + n + 1) (ez : z = b + n + 2) (hlt : z < s.heap.objs.size) (hl : ∀ l ∈ ls, l < b)
    (hz : ZR s.heap z TI TO f0 f1) (hf : f0 = .none ∨ ∃ T : Addr, f0 = rawInt T) (hTI : TupA s.heap TI (refs b n).toArray) (hi : Its s.heap b ls i 0) (h0 : ls[0]? = some l0) (hl0 : s.heap.IsList l0 its) (he : its[i]? = none)
    (hE : ∀ h' e, Kp b n s.heap h' → (∃ o, h'.get? e = some o ∧ o.cls = .type "StopIteration") → E (.ref e) { s with heap := h' }) :
    wpAny (model prog w) A (Builtin.«zip.__next__» ⟨[.ref z], []⟩) Q E s := by
  have hn : 0 < n := by rw [← en]; exact (List.getElem?_eq_some_iff.mp h0).1
  have ltl : l0 < b := hl l0 (List.mem_of_getElem? h0)
  show wpAny _ _ (field (.ref z) 2 >>= _) _ _ _
  refine wpAny_bind (wpAny_field hz rfl (x := .bool false) rfl ?_)
  show wpAny _ _ (field (.ref z) 3 >>= _) _ _ _
  refine wpAny_bind (wpAny_field hz rfl (x := .ref TI) rfl ?_)
  refine wpAny_bind (wpAny_seqItems hTI rfl ?_)
  obtain ⟨n', rfl⟩ : ∃ n', n = n' + 1 := ⟨n - 1, by omega⟩
  have er : refs b (n' + 1) = .ref b :: (List.range n').map fun j => .ref (b + (j + 1)) := by
    unfold refs
    rw [List.range_succ_eq_map, List.map_cons, List.map_map]; rfl
  have it := hi 0 l0 h0
  rw [if_neg (Nat.lt_irrefl _), Nat.add_zero] at it
  have nb : b ≠ z := by omega
  have nl : l0 ≠ z := by omega
  have ne : (refs b (n' + 1)).toArray.isEmpty = false := by rw [er]; rfl
  simp only [ne, Bool.false_eq_true, if_false]
  refine wpAny_bind (free_zip hz hf ?_ fun h₁ hz₁ hs₁ => ?_)
  · simp only [if_true]
    refine wpAny_bind (wpAny_rule ?_)
    refine wpAny_bind (wpAny_field hz rfl (x := .ref TO) rfl ?_)
    refine wpAny_bind (wpAny_setField_rec hz (by simp) fun h₁ hz₁ hs₁ => ?_)
    replace hz₁ : ZR h₁ z TI TO .ellipsis f1 := hz₁
    rw [er, List.zipIdx_cons, List.forIn_cons]
    refine wpAny_bind (wpAny_bind (wpAny_bind (wpAny_onRaise ?_)))
    show wpAny _ _ (Builtin.SmallTypes.nextOf (.ref b) >>= _) _ _ _
    refine wpAny_bind (wpAny_nextOf_list_end (s := { s with heap := h₁ }) hh (it.extBut hs₁.extBut nb) (hl0.extBut hs₁.extBut nl) he fun h₂ e hs₂ ho => ?_)
    obtain ⟨oe, hoe, hce⟩ := ho
    have hz₂ : ZR h₂ z TI TO .ellipsis f1 := hs₂ _ _ (Ne.symm nb) hz₁
    have hez : e ≠ z := fun x => by subst x; rw [hz₂] at hoe; cases hoe; simp at hce
    exact wpAny_setField_rec (s := { s with heap := h₂ }) hz₂ (by simp) fun h₃ _ hs₃ => hE h₃ e (fun c o q x => hs₃.extBut _ _ (show (c : Nat) ≠ z by omega) (hs₂ _ _ (show (c : Nat) ≠ b by omega) (hs₁.extBut _ _ (show (c : Nat) ≠ z by omega) x))) ⟨oe, hs₃.extBut _ _ hez hoe, hce⟩
  · simp only [Bool.false_eq_true, if_false]
    rw [← Array.forIn_toList, er]
    show wpAny _ _ (forIn (Value.ref b :: _) _ _ >>= _) _ _ _
    rw [List.forIn_cons]
    refine wpAny_bind (wpAny_bind (wpAny_bind (wpAny_holding ?_)))
    show wpAny _ _ (Builtin.SmallTypes.nextOf (.ref b) >>= _) _ _ _
    refine wpAny_bind (wpAny_nextOf_list_end (s := { s with heap := h₁ }) hh (it.extBut hs₁.extBut nb) (hl0.extBut hs₁.extBut nl) he fun h₂ e hs₂ ho => ?_)
    exact hE h₂ e (fun c o q x => hs₂ _ _ (show (c : Nat) ≠ b by omega) (hs₁.extBut _ _ (show (c : Nat) ≠ z by omega) x)) ho
end
end Ls
end
section
set_option maxRecDepth 100000
namespace Ls
open PySem PySem.Spec PyProof.Rows L2
section
variable {prog : Program} {w : World} {A : Around} {E : Value → Shared → Prop} {s : Shared}
def vrefs (ls : List Nat) : List Value := ls.map fun l => .ref l
theorem meets_zipn (ls : List Nat) :
    Meets (Builtin.«zip.__new__» ⟨.type "zip" :: vrefs ls, []⟩) (fun _ R s => ls.length < 1000 ∧ (∀ l ∈ ls, ∃ its, s.heap.IsList l its) ∧
      ∀ h' : Heap, h'.objs.size = s.heap.objs.size + ls.length + 3 → (∀ c o, s.heap.get? c = some o → h'.get? c = some o) → ZR h' (s.heap.objs.size + ls.length + 2) (s.heap.objs.size + ls.length) (s.heap.objs.size + ls.length + 1) .none false →
        TupA h' (s.heap.objs.size + ls.length) (refs s.heap.objs.size ls.length).toArray → (∃ xs : List Value, xs.length = ls.length ∧ TupA h' (s.heap.objs.size + ls.length + 1) xs.toArray) → Its h' s.heap.objs.size ls 0 0 →
        R (.ok (.ret (.ref (s.heap.objs.size + ls.length + 2 : Nat)))) { s with heap := h' }) :=
  .of_wp fun prog w A R s h => by
    obtain ⟨hn, hl, h⟩ := h
    have hsub := sub_zip
    unfold Builtin.«zip.__new__»
    refine wpAny_bind ?_
    unfold Builtin.SmallTypes.newClass
    refine wpAny_bind (wpAny_of_eq (a := true) (by rfl) ?_)
    simp only [Bool.not_true, Bool.false_eq_true, if_false]
    refine wpAny_bind (wpAny_of_eq (a := true) hsub ?_)
    simp only [Bool.not_true, Bool.false_eq_true, if_false]
    refine wpAny_pure ?_
    show wpAny _ _ (Builtin.SmallTypes.iterAll (vrefs ls) >>= _) _ _ _
    refine wpAny_bind ?_
    unfold Builtin.SmallTypes.iterAll
    refine wpAny_bind (wpAny_mono (wpAny_forIn_list _ (fun rest r s' => ∃ (k : Nat) (h : Heap), r = (refs s.heap.objs.size k).toArray ∧ rest = (vrefs ls).drop k ∧ s' = { s with heap := h } ∧ (∀ j l : Nat, j < k → ls[j]? = some l → h.IsListIter (s.heap.objs.size + j) l 0) ∧ (∀ c o, s.heap.get? c = some o → h.get? c = some o) ∧ h.objs.size = s.heap.objs.size + k ∧ k ≤ ls.length)
      (fun r s' => ∃ (h : Heap), r = (refs s.heap.objs.size ls.length).toArray ∧ s' = { s with heap := h } ∧ Its h s.heap.objs.size ls 0 0 ∧ (∀ c o, s.heap.get? c = some o → h.get? c = some o) ∧ h.objs.size = s.heap.objs.size + ls.length) ?_ ?_ _ _ ⟨0, s.heap, rfl, rfl, rfl, fun j l q => absurd q (Nat.not_lt_zero _), fun _ _ e => e, rfl, Nat.zero_le _⟩) ?_ (fun _ _ q => q))
    · rintro x rest r s' ⟨k, h1, er, el, es, z1, z2, z3, _⟩
      subst er es
      have hk : k < ls.length := by
        refine Nat.lt_of_not_le fun q => ?_
        rw [List.drop_eq_nil_of_le (by simp [vrefs]; omega)] at el
        cases el
      rw [List.drop_eq_getElem_cons (by simp [vrefs]; omega)] at el
      obtain ⟨ex, el2⟩ := List.cons.inj el
      have ex' : x = .ref (ls[k]) := by rw [ex]; simp [vrefs]
      subst ex'
      obtain ⟨its, pl⟩ := hl ls[k] (List.getElem_mem hk)
      refine wpAny_bind (wpAny_holding (wpAny_pyIter_list (s := { s with heap := h1 }) (pl.at fun o e => z2 _ o e) ?_))
      refine wpAny_pure ⟨k + 1, _, ?_, el2, rfl, fun j l hj ej => ?_, fun c o e => Heap.get?_push_of_some _ (z2 c o e), ?_, hk⟩
      · show (refs s.heap.objs.size k).toArray.push (Value.ref h1.objs.size) = _
        rw [z3]
        unfold refs
        rw [List.range_succ, List.map_append]; simp
      · by_cases q : j < k
        · exact (z1 j l q ej).at fun o e => Heap.get?_push_of_some _ e
        · have : j = k := by omega
          subst this
          rw [List.getElem?_eq_getElem hk] at ej
          have e2 := Option.some.inj ej
          subst e2
          have g := Heap.get?_push_size h1 (o := { cls := .type "list_iterator", data := .fields #[.ref ls[j], .int 0 0] }) rfl
          rw [z3] at g
          exact ⟨_, g, rfl, rfl⟩
      · rw [Heap.size_push, z3]; rfl
    · rintro r s' ⟨k, h1, er, el, es, z1, z2, z3, hk⟩
      have : k = ls.length := by
        have := congrArg List.length el
        simp [vrefs] at this; omega
      subst this
      refine ⟨h1, er, es, fun j l ej => ?_, z2, z3⟩
      rw [if_neg (Nat.not_lt_zero _)]
      exact z1 j l (List.getElem?_eq_some_iff.mp ej).1 ej
    · rintro r s' ⟨h1, er, es, z1, z2, z3⟩
      subst er es
      refine wpAny_pure ?_
      show wpAny _ _ (newTuple (refs s.heap.objs.size ls.length) >>= _) _ _ _
      have lr : (refs s.heap.objs.size ls.length).length = ls.length := refs_len
      refine wpAny_bind (wpAny_newTuple (s := { s with heap := h1 }) ?_ (by rw [sizeLine_eq]; omega))
      refine wpAny_bind (wpAny_newTuple (s := { s with heap := h1.push _ }) ?_ (by rw [sizeLine_eq, List.length_map]; show (refs _ _).length ≤ _; omega))
      let h2 := h1.push { cls := .type "tuple", data := .seq (refs s.heap.objs.size ls.length).toArray }
      let h3 := h2.push { cls := .type "tuple", data := .seq (List.map (fun x => Value.none) (refs s.heap.objs.size ls.length).toArray.toList).toArray }
      have s2 : h2.objs.size = s.heap.objs.size + ls.length + 1 := by show (h1.push _).objs.size = _; rw [Heap.size_push, z3]
      have s3 : h3.objs.size = s.heap.objs.size + ls.length + 2 := by show (h2.push _).objs.size = _; rw [Heap.size_push, s2]
      have g2 : TupA h2 h1.objs.size (refs s.heap.objs.size ls.length).toArray := Heap.get?_push_size _ rfl
      have g3 : TupA h3 h2.objs.size (List.map (fun x => Value.none) (refs s.heap.objs.size ls.length).toArray.toList).toArray := Heap.get?_push_size _ rfl
      let h4 := h3.push { cls := .type "zip", data := .fields #[.none, .bool false, .bool false, .ref h1.objs.size, .ref h2.objs.size] }
      have g4 : ZR h4 h3.objs.size h1.objs.size h2.objs.size .none false := Heap.get?_push_size _ rfl
      have s4 : h4.objs.size = s.heap.objs.size + ls.length + 3 := by show (h3.push _).objs.size = _; rw [Heap.size_push, s3]
      rw [s3, s2, z3] at g4
      rw [s2] at g3
      rw [z3] at g2
      unfold Builtin.SmallTypes.newRecord
      show wpAny _ _ (newObj _ _ _ >>= _) _ _ _
      refine wpAny_bind (wpAny_newObj_type ?_ (by first | exact trivial | (simp [sizeOk]; done) | (show _ ≤ _; simp [Builtin.SmallTypes.ownedTupleFields, sizeLine_eq])))
      refine wpAny_pure ⟨_, rfl, ?_⟩
      have fin := h h4 s4 (fun c o e => Heap.get?_push_of_some _ (Heap.get?_push_of_some _ (Heap.get?_push_of_some _ (z2 c o e)))) g4 (Heap.get?_push_of_some _ (Heap.get?_push_of_some _ g2)) ⟨_, by simp [lr], Heap.get?_push_of_some _ g3⟩ (z1.at fun j hj o e => Heap.get?_push_of_some _ (Heap.get?_push_of_some _ (Heap.get?_push_of_some _ e)))
      rw [← s3] at fin
      exact fin
theorem ks_type {M : Model} {A : Around} {E : Value → Shared → Prop} {s : Shared} {T : String} {pos : Pos} {Q : Value → Shared → Prop} {args : List (Bool × Sem Value)} (hst : args.any (·.1) = true)
    (h : wpAny M A (evalArgs (.type T) true args []) (fun a s₁ => wpAny M A (call (.type T) a.pos a.kw) Q E s₁) E s) : wpAny M A (callWith pos (.type T) [] args []) Q E s := by
  unfold callWith
  refine wpAny_bind (wpAny_holding (wpAny_mono h (fun a s₁ h₁ => wpAny_bind (wpAny_standAt ?_)) fun _ _ x => x))
  simp only [hst, Bool.true_or]
  refine wpAny_bind (wpAny_pure ?_)
  exact wpAny_bind (wpAny_mono (wpAny_operating h₁) (fun r s₂ hr => wpAny_bind (wpAny_holding (wpAny_point (wpAny_pure hr)))) fun _ _ x => x)
theorem callWith_typeS {M : Model} {A : Around} {E : Value → Shared → Prop} {s : Shared} {env : Env} {e : Expr} {T : String} {p pos : Pos} {Q : Value → Shared → Prop} (h : wpAny M A (eval e env) (fun v s₁ => PySem.W.StarOf M A E v (fun vs s₂ => wpAny M A (call (.type T) vs) Q E s₂) s₁) E s)
    (he : starEach [.Starred e p] env = [(true, eval e env)] := by rfl) :
    wpAny M A (callWith pos (.type T) [] (backTo pos (starEach [.Starred e p] env)) []) Q E s := by
  rw [he]
  exact ks_type rfl (PySem.W.ks_lone h)
theorem pyNextA {b i n : Nat} {TI TO z : Nat} {f0 : Value} {f1 : Bool} {ls : List Nat} {us : List Value} {Q : Option Value → Shared → Prop} (en : ls.length = n) (hn : 0 < n) (eTI : TI = b + n) (eTO : TO = b + n + 1) (ez : z = b + n + 2) (hlt : z < s.heap.objs.size) (hl : ∀ l ∈ ls, l < b) (hb : n < 1000)
    (hz : ZR s.heap z TI TO f0 f1) (hf : f0 = .none ∨ ∃ T : Addr, f0 = rawInt T) (hTI : TupA s.heap TI (refs b n).toArray) (hTO : ∃ xs : List Value, xs.length = n ∧ TupA s.heap TO xs.toArray) (hi : Its s.heap b ls i 0) (hr : RowOf s.heap ls i us)
    (hQ : ∀ h' f1', ZR h' z TI TO (rawInt s.heap.objs.size) f1' ∨ ZR h' z TI TO f0 f1' → TupA h' TI (refs b n).toArray → (∃ xs : List Value, xs.length = n ∧ TupA h' TO xs.toArray) → Its h' b ls (i + 1) 0 → TupA h' s.heap.objs.size us.toArray → h'.objs.size = s.heap.objs.size + 1 →
      Kp b n s.heap h' → Q (some (.ref s.heap.objs.size)) { s with heap := h' }) :
    wpAny (model prog w) A (pyNext (.ref z)) Q E s := by
  have hT : s.TypeIs (.ref z) "zip" := ⟨_, hz, rfl⟩
  unfold pyNext
  exact wpAny_bind (wpAny_attempt (wpAny_callSpecial?_slot (name := Str.ofString "__next__") hT F.slot_zip_next
    (wpAny_call_entry F.slot_zip_next hT F.entry_zip_next
      (nextA en hn eTI eTO ez hlt hl hb hz hf hTI hTO hi hr fun h' f1' a1 a2 a3 a4 a5 a6 a7 => wpAny_pure (hQ h' f1' a1 a2 a3 a4 a5 a6 a7)) (F.args_zip_next_1 _))))
theorem pyNextE {b i n : Nat} {TI TO z : Nat} {f0 : Value} {f1 : Bool} {ls : List Nat} {l0 : Nat} {its : Array Value} {Q : Option Value → Shared → Prop} (hh : A.handled = none) (en : ls.length = n) (eTI : TI = b + n) (eTO : TO = b + n + 1) (ez : z = b + n + 2) (hlt : z < s.heap.objs.size) (hl : ∀ l ∈ ls, l < b)
    (hz : ZR s.heap z TI TO f0 f1) (hf : f0 = .none ∨ ∃ T : Addr, f0 = rawInt T) (hTI : TupA s.heap TI (refs b n).toArray) (hi : Its s.heap b ls i 0) (h0 : ls[0]? = some l0) (hl0 : s.heap.IsList l0 its) (he : its[i]? = none)
    (hQ : ∀ h', Kp b n s.heap h' → Q none { s with heap := h' }) :
    wpAny (model prog w) A (pyNext (.ref z)) Q E s := by
  have hT : s.TypeIs (.ref z) "zip" := ⟨_, hz, rfl⟩
  unfold pyNext
  refine wpAny_bind (wpAny_attempt (wpAny_callSpecial?_slot (name := Str.ofString "__next__") hT F.slot_zip_next
    (wpAny_call_entry F.slot_zip_next hT F.entry_zip_next (nextE hh en eTI eTO ez hlt hl hz hf hTI hi h0 hl0 he fun h' e hk he => ?_) (F.args_zip_next_1 _))))
  obtain ⟨o, ho, hc⟩ := he
  refine wpAny_bind (wpAny_isInstance (T := "StopIteration") (b := true) ⟨o, ho, hc⟩ isSubtype_stop ?_)
  exact wpAny_pure (hQ _ hk)
theorem pyIterZ {z TI TO : Nat} {f0 : Value} {f1 : Bool} {Q : Value → Shared → Prop} (hz : ZR s.heap z TI TO f0 f1) (h : Q (.ref z) s) : wpAny (model prog w) A (pyIter (.ref z)) Q E s := by
  have hT : s.TypeIs (.ref z) "zip" := ⟨_, hz, rfl⟩
  refine wpAny_pyIter_slot hT F.slot_zip_iter (wpAny_call_entry F.slot_zip_iter hT F.entry_zip_iter ?_ (F.args_zip_iter_1 _))
  show wpAny _ _ (ret (.ref z)) _ _ s
  exact wpAny_pure ⟨_, rfl, "zip", _, hT, F.slot_zip_next.lookup, h⟩
end
/-- the lists ls as they stand at each turn, their items at one place in a new tuple -/
def ItZ (K : PySem.W.Frag) (ls : List Nat) : It :=
  ⟨fun i H => ∀ l ∈ ls, ∃ xs : List V, SqL K H l xs ∧ i < xs.length,
    fun i H v H' => ∃ T row, v = .ref T ∧ H T = none ∧ H' = upd H T (.tup row) ∧ row.length = ls.length ∧ ∀ (j l : Nat) (xs : List V), ls[j]? = some l → SqL K H l xs → row[j]? = xs[i]?,
    fun i H => ∃ (l : Nat) (xs : List V), ls[0]? = some l ∧ SqL K H l xs ∧ xs.length ≤ i⟩
def fpZ (b n : Nat) : List Addr := (List.range (n + 3)).map fun j => b + j
theorem fpZ_mem {b n : Nat} {c : Nat} : c ∈ fpZ b n ↔ b ≤ c ∧ c < b + n + 3 := by
  unfold fpZ
  rw [List.mem_map]
  constructor
  · rintro ⟨j, hj, e⟩
    have := List.mem_range.mp hj
    have e2 : b + j = c := e
    omega
  · rintro ⟨h1, h2⟩
    exact ⟨c - b, List.mem_range.mpr (by omega), (by omega : b + (c - b) = c)⟩
theorem fpZ_out {b n : Nat} {c : Nat} (h : c ∉ fpZ b n) : c < b ∨ b + n + 3 ≤ c := by
  have := mt (fpZ_mem (b := b) (n := n) (c := c)).mpr h
  omega
theorem fpZ_split {b n : Nat} {c : Nat} (h : c ∈ fpZ b n) : (∃ j, j < n ∧ c = b + j) ∨ c = b + n ∨ c = b + n + 1 ∨ c = b + n + 2 := by
  obtain ⟨h1, h2⟩ := fpZ_mem.mp h
  by_cases q : c < b + n
  · exact .inl ⟨c - b, by omega, by omega⟩
  · exact .inr (by omega)
theorem rowZ {X : Cx} {pins : List (Addr × Obj)} {σ : L2.St} {H : Hp} {s : Shared} (I : Inv X pins σ H s) (i : Nat) : ∀ ls : List Nat, (∀ l ∈ ls, ∃ xs : List V, SqL X.K H l xs ∧ i < xs.length) →
    ∃ (row : List V) (us : List Value), Vals row us ∧ row.length = ls.length ∧ RowOf s.heap ls i us ∧ ∀ (j l : Nat) (xs : List V), ls[j]? = some l → SqL X.K H l xs → row[j]? = xs[i]?
  | [], _ => ⟨[], [], .nil, rfl, ⟨rfl, fun j l u e _ => by simp at e⟩, fun j l xs e _ => by simp at e⟩
  | l0 :: r, h => by
    obtain ⟨row, us, rv, lr, ro, hx⟩ := rowZ I i r fun l hl => h l (List.mem_cons_of_mem _ hl)
    obtain ⟨xs0, q0, li⟩ := h l0 (by simp)
    obtain ⟨its, rv0, p, _⟩ := I.list q0
    obtain ⟨u, hu, ru⟩ := rv0.get (List.getElem?_eq_getElem li)
    refine ⟨xs0[i] :: row, u :: us, .cons ru rv, by simp [lr], ⟨by simp [ro.1], fun j l u' e1 e2 => ?_⟩, fun j l xs e1 q => ?_⟩
    · cases j with
      | zero =>
        simp at e1 e2
        subst e1 e2
        exact ⟨_, p.isList, by simpa using hu⟩
      | succ j => exact ro.2 j l u' (by simpa using e1) (by simpa using e2)
    · cases j with
      | zero =>
        simp at e1
        subst e1
        rw [I.list_inj q q0, List.getElem?_eq_getElem li]; rfl
      | succ j => exact hx j l xs (by simpa using e1) q
def tnZ (b : Nat) (ls : List Nat) (i : Nat) (h : Heap) : Prop :=
  ∃ f0 f1, ZR h (b + ls.length + 2) (b + ls.length) (b + ls.length + 1) f0 f1 ∧ (f0 = .none ∨ ∃ T : Addr, f0 = rawInt T) ∧ TupA h (b + ls.length) (refs b ls.length).toArray ∧ (∃ xs : List Value, xs.length = ls.length ∧ TupA h (b + ls.length + 1) xs.toArray) ∧ Its h b ls i 0
theorem turn_zipn {P : Program} {w : World} {K : PySem.W.Frag} {x : Str} {tpos : Pos} {b : Nat} {ls : List Nat} (hn : 0 < ls.length) (hb : ls.length < 1000) (hl : ∀ l ∈ ls, l < b) :
    Turn P w K (.Name x tpos) (ItZ K ls) (fpZ b ls.length) (b + ls.length + 2) (tnZ b ls) where
  mem := fpZ_mem.mpr ⟨by omega, by omega⟩
  obj := fun i h st c hc => by
    obtain ⟨f0, f1, hz, hf, hTI, ⟨xs, lx, hTO⟩, hi⟩ := st
    rcases fpZ_split hc with ⟨j, hj2, e⟩ | e | e | e
    · obtain ⟨o, e1, _, d1⟩ := hi j ls[j] (List.getElem?_eq_getElem hj2)
      rw [e]
      exact ⟨o, e1, fun v q => by rw [d1] at q; cases q⟩
    · rw [e]; exact ⟨_, hTI, fun v q => nomatch q⟩
    · rw [e]; exact ⟨_, hTO, fun v q => nomatch q⟩
    · rw [e]; exact ⟨_, hz, fun v q => nomatch q⟩
  keep := fun i h h' st k => by
    obtain ⟨f0, f1, hz, hf, hTI, ⟨xs, lx, hTO⟩, hi⟩ := st
    exact ⟨f0, f1, k _ (fpZ_mem.mpr ⟨by omega, by omega⟩) _ hz, hf, k _ (fpZ_mem.mpr ⟨by omega, by omega⟩) _ hTI, ⟨xs, lx, k _ (fpZ_mem.mpr ⟨by omega, by omega⟩) _ hTO⟩, hi.at fun j hj o e => k _ (fpZ_mem.mpr ⟨by omega, by omega⟩) o e⟩
  item := by
    intro X hP hw hK hc i pins s σ H E I hf st hg
    subst hP hw hK
    obtain ⟨f0, f1, hz, hf0, hTI, hTO, hi⟩ := st
    obtain ⟨row, us, rv, lr, ro, hx⟩ := rowZ I i ls hg
    have hzl : b + ls.length + 2 < s.heap.objs.size := Heap.lt_size hz
    refine pyNextA rfl hn rfl rfl rfl hzl hl hb hz hf0 hTI hTO hi ro fun h' f1' z' TI' TO' i' hT hsz hk => ?_
    refine ⟨_, rfl, ?_⟩
    unfold letOwnedTupleGo
    refine wpAny_pure ?_
    have new : ObjOk X.prog X.w (upd H s.heap.objs.size (.tup row)) h' s.heap.objs.size (.tup row) :=
      ⟨by show row.length ≤ sizeLine; rw [sizeLine_eq]; omega, us, rv, ⟨_, hT, rfl, _, rfl⟩⟩
    have I1 : Inv X pins σ (upd H s.heap.objs.size (.tup row)) { s with heap := h' } :=
      I.turnedNew (t' := s.toks) (ch := fpZ b ls.length) (fun c o hb q => hk c o (fpZ_out hb) q) hf (Nat.le_refl _) new
    refine ⟨.ref s.heap.objs.size, _, I1, rfl, ⟨_, row, rfl, I.hok.fresh (Nat.le_refl _), rfl, lr, hx⟩, ?_, fun c hcm => ?_⟩
    · rcases z' with z' | z'
      · exact ⟨_, f1', z', .inr ⟨_, rfl⟩, TI', TO', i'⟩
      · exact ⟨f0, f1', z', hf0, TI', TO', i'⟩
    · have hlt : (c : Nat) < s.heap.objs.size := by
        have h2 := (fpZ_mem.mp hcm).2
        exact Nat.lt_of_lt_of_le h2 hzl
      rw [upd_ne (Nat.ne_of_lt hlt)]
      exact (hf c hcm).1
  done := by
    intro X hP hw hK hc i pins s σ H E I hf st hg
    subst hP hw hK
    obtain ⟨f0, f1, hz, hf0, hTI, hTO, hi⟩ := st
    obtain ⟨l, xs, e0, q, le⟩ := hg
    obtain ⟨its, rv, p, _⟩ := I.list q
    have l1 := rv.length
    have hzl : b + ls.length + 2 < s.heap.objs.size := Heap.lt_size hz
    refine pyNextE (I.ok.hd hc) rfl rfl rfl rfl hzl hl hz hf0 hTI hi e0 p.isList (by simp; omega) fun h' hk => ⟨rfl, I.turnedL (t' := s.toks) (ch := fpZ b ls.length) (fun c o hb q => hk c o (fpZ_out hb) q) hf⟩
  self := fun A i s Q E st h => let ⟨_, _, hz, _⟩ := st; pyIterZ hz h
def iZipS (K : PySem.W.Frag) (te : TE) : TI := fun σ H R => te σ H fun x H1 => ∃ (a : Addr) (ls : List Nat), x = .ref a ∧ SqL K H1 a (ls.map fun l => V.ref l) ∧ 0 < ls.length ∧ ls.length < 1000 ∧ (∀ l ∈ ls, ∃ xs : List V, SqL K H1 l xs) ∧ R (ItZ K ls) H1
theorem vals_refs {us : List Value} : ∀ {ls : List Nat}, Vals (ls.map fun l => V.ref l) us → us = vrefs ls := by
  intro ls
  induction ls generalizing us with
  | nil => intro r; cases r; rfl
  | cons l r ih =>
    intro q
    cases q with
    | cons a b =>
      rw [ih b]
      cases a; rfl
theorem pi_zipS {X : Cx} {x : Str} {e : Expr} {te : TE} {p sp_ pos tpos : Pos} (hg : Gl X "zip") (hm : X.mg "zip" = none) (he : PE X e te)
    (hst : starEach [.Starred e sp_] X.env = [(true, eval e X.env)] := by rfl) :
    PI X (.Name x tpos) (.Call (.Name "zip" p) [.Starred e sp_] [] pos) (iZipS X.K te) := by
  refine ⟨fun pins s σ H R I h => ?_⟩
  refine Call_ (ld_blt I hg hm PyProof.Rows.boot_zip (callWith_typeS (thn (he.run pins s σ H _ I h) fun v s1 ⟨y, H1, I1, ry, a, ls, ey, hxs, hn, hb, hls, q⟩ => ?_) hst))
  subst ey
  obtain rfl : v = Value.ref a := ry
  refine StX.star_any I1 (.inr hxs) fun us s2 I2 rv => ?_
  have eu := vals_refs rv
  subst eu
  have lst : ∀ l ∈ ls, ∃ its, s2.heap.IsList l its := fun l hl => by
    obtain ⟨xs, q⟩ := hls l hl
    obtain ⟨its, rv, p, _⟩ := I2.list q
    exact ⟨_, p.isList⟩
  have lt : ∀ l ∈ ls, l < s2.heap.objs.size := fun l hl => by
    obtain ⟨its, o, ho, _⟩ := lst l hl
    exact Heap.lt_size ho
  refine callType_new F.called_zip (by decide) (typeCall_zip_n _) (newCall_zip_n _) (fun obj => args_object_init_n obj _) F.entry_zip_new (meets_zipn ls) ⟨hb, lst, fun h' hsz hk hz hTI hTO hi => ?_⟩
  refine ⟨⟨_, hz, rfl⟩, pyIterZ hz ?_⟩
  have I3 : Inv X pins σ H1 { s2 with heap := h' } := I2.kept (t' := s2.toks) hk
  refine ⟨s2.heap.objs.size + ls.length + 2, fpZ s2.heap.objs.size ls.length, _, _, H1, rfl, I3, turn_zipn hn hb lt, ⟨_, _, hz, .inl rfl, hTI, hTO, hi⟩, fun c hcm => ?_, q⟩
  have hle : s2.heap.objs.size ≤ c := (fpZ_mem.mp hcm).1
  exact I2.fpOk hle (I2.hok.fresh hle)
theorem kzipS {X : Cx} (K : PySem.W.Frag) {x : Str} {e : Expr} {te : TE} {p sp_ pos tpos : Pos} (hm : X.mg "zip" = none) (he : PE X e te) (hg : Gl X "zip" := by rfl)
    (hst : starEach [.Starred e sp_] X.env = [(true, eval e X.env)] := by rfl) (hK : X.K = K := by rfl) :
    PI X (.Name x tpos) (.Call (.Name "zip" p) [.Starred e sp_] [] pos) (iZipS K te) := hK ▸ pi_zipS hg hm he hst
end Ls
end
section
set_option maxRecDepth 100000
namespace Ls
open PySem PySem.Spec PyProof.Rows L2
open Sx (cell lines)
section
variable {X : Cx}
theorem kslA (K : PySem.W.Frag) (hK : X.K = K := by rfl) : SlR X (rSlA K) := hK ▸ sl_tupA
theorem kcatA (K : PySem.W.Frag) (hK : X.K = K := by rfl) : OpR X (binaryOp .Add) (rCatA K) := hK ▸ op_catA
theorem pi_or {tg iter : Expr} {w1 w2 : TI} (h1 : PI X tg iter w1) (h2 : PI X tg iter w2) : PI X tg iter (fun σ H R => w1 σ H R ∨ w2 σ H R) :=
  ⟨fun pins s σ H R I h => h.elim (fun q => h1.run pins s σ H R I q) fun q => h2.run pins s σ H R I q⟩
/-- a list or a tuple is walked -/
def iSeq (K : PySem.W.Frag) (te : TE) : TI := fun σ H R => iList K te σ H R ∨ iTup K te σ H R
theorem kfor_seq (K : PySem.W.Frag) {tg l : Expr} {tl : TE} (hl : PE X l tl) (hK : X.K = K := by rfl) : PI X tg l (iSeq K tl) := pi_or (kfor_list K hl hK) (kfor_tup K hl hK)
end
section
variable {K : PySem.W.Frag} {H H' : Hp}
theorem sql_cut {T : List Addr} {b : Addr} {xs : List V} (h : SqL K H b xs) (n : b ∉ T) : SqL K (cut T H) b xs := by
  rcases h with (e | ⟨o, e⟩) | e
  · exact .inl (.inl (by rw [cut_ne n]; exact e))
  · exact .inl (.inr ⟨o, by rw [cut_ne n]; exact e⟩)
  · exact .inr e
theorem same_mut {c : Addr} {o : HO} (s : Same H H') (e : H c = none) : Same H (upd H' c o) := fun b x q => by rw [upd_ne (ne_of_none q e)]; exact s b x q
theorem same_cut {Hx : Hp} {T : List Addr} (n : ∀ a ∈ T, H a = none) (s : Same H Hx) (q : Same (cut T Hx) (cut T H')) : Same H H' := fun b o e => by
  have nb : b ∉ T := fun z => by rw [n b z] at e; cases e
  exact cut_le (q b o (by rw [cut_ne nb]; exact s b o e))
theorem none_of {c : Addr} (s : Same H H') (e : H' c = none) : H c = none := by
  cases q : H c with
  | none => rfl
  | some o => rw [s c o q] at e; cases e
/-- a slice of numbers -/
theorem cut_some {ls : List Int} {lo n : Nat} {hi : Option Int} (h : lo + n ≤ ls.length) (e : HT.sIx ls.length ls.length hi = lo + n) : cutV (ls.map V.int) (some (lo : Int)) hi = ((List.range n).map fun k => ls.getD (lo + k) 0).map V.int := by
  unfold cutV
  rw [List.length_map, HT.sIx_nat, e]
  refine List.ext_getElem (by simp; omega) fun i h1 h2 => ?_
  simp at h1 h2
  simp [show min lo ls.length = lo by omega, show lo + i < ls.length by omega]
theorem cut_take {ls : List Int} {n : Nat} : cutV (ls.map V.int) none (some (n : Int)) = (ls.take n).map V.int := by
  unfold cutV
  rw [List.length_map, HT.sIx_nat, HT.sIx_none, List.drop_zero, Nat.sub_zero, ← List.map_take]
  congr 1
  by_cases q : n ≤ ls.length
  · rw [Nat.min_eq_left q]
  · rw [Nat.min_eq_right (by omega), List.take_of_length_le (Nat.le_refl _), List.take_of_length_le (by omega)]
/-- lists of whole numbers at these places -/
def ItemsL (K : PySem.W.Frag) (H : Hp) (as : List Addr) (rows : List (List Int)) : Prop :=
  as.length = rows.length ∧ ∀ (i : Nat) (b : Addr) (row : List Int), as[i]? = some b → rows[i]? = some row → SqL K H b (row.map V.int)
theorem ItemsL.mono {as : List Addr} {rows : List (List Int)} (s : Same H H') (r : ItemsL K H as rows) : ItemsL K H' as rows := ⟨r.1, fun i b row e1 e2 => s.seq (r.2 i b row e1 e2)⟩
theorem ItemsL.append {as bs : List Addr} {r1 r2 : List (List Int)} (a : ItemsL K H as r1) (b : ItemsL K H bs r2) : ItemsL K H (as ++ bs) (r1 ++ r2) := by
  refine ⟨by rw [List.length_append, List.length_append, a.1, b.1], fun i c row e1 e2 => ?_⟩
  have ha := a.1
  by_cases q : i < as.length
  · rw [List.getElem?_append_left q] at e1
    rw [List.getElem?_append_left (by omega)] at e2
    exact a.2 i c row e1 e2
  · rw [List.getElem?_append_right (by omega)] at e1
    rw [List.getElem?_append_right (by omega)] at e2
    rw [← ha] at e2
    exact b.2 _ c row e1 e2
theorem items_of {n : Nat} {ys : List V} (f : Nat → List Int) (hl : ys.length = n) (h : ∀ i y, ys[i]? = some y → ∃ b, y = .ref b ∧ SqL K H b ((f i).map V.int)) : ∃ as : List Addr, ys = as.map V.ref ∧ ItemsL K H as ((List.range n).map f) := by
  let adr : V → Addr := fun v => match v with | .ref b => b | _ => 0
  have e1 : ys = (ys.map adr).map V.ref := by
    refine List.ext_getElem (by simp) fun i h1 h2 => ?_
    obtain ⟨b, eb, _⟩ := h i ys[i] (List.getElem?_eq_getElem h1)
    simp [adr, eb]
  refine ⟨ys.map adr, e1, by simp [hl], fun i b row q1 q2 => ?_⟩
  rw [List.getElem?_map] at q1
  cases q : ys[i]? with
  | none => rw [q] at q1; cases q1
  | some y =>
    obtain ⟨b', eb, hb⟩ := h i y q
    rw [q] at q1
    have q3 : adr y = b := Option.some.inj q1
    rw [eb] at q3
    have q4 : b' = b := q3
    subst q4
    have hi : i < n := by rw [← hl]; exact (List.getElem?_eq_some_iff.mp q).1
    have : f i = row := by
      rw [List.getElem?_map, List.getElem?_range hi] at q2
      exact Option.some.inj q2
    rw [← this]; exact hb
/-- rows as they are given: a list or a tuple of tuples of whole numbers -/
def RowsP (K : PySem.W.Frag) (H : Hp) (a : Addr) (rows : List (List Int)) : Prop :=
  ∃ as : List Addr, (SqL K H a (as.map V.ref) ∨ SqT K H a (as.map V.ref)) ∧ as.length = rows.length ∧ ∀ (i : Nat) (b : Addr) (row : List Int), as[i]? = some b → rows[i]? = some row → SqT K H b (row.map V.int)
/-- .. a list of tuples -/
def RowsQ (K : PySem.W.Frag) (H : Hp) (a : Addr) (rows : List (List Int)) : Prop :=
  ∃ as : List Addr, SqL K H a (as.map V.ref) ∧ as.length = rows.length ∧ ∀ (i : Nat) (b : Addr) (row : List Int), as[i]? = some b → rows[i]? = some row → SqT K H b (row.map V.int)
theorem RowsQ.mono {a : Addr} {rows : List (List Int)} (s : Same H H') (r : RowsQ K H a rows) : RowsQ K H' a rows := by
  obtain ⟨as, h1, h2, h3⟩ := r
  exact ⟨as, s.seq h1, h2, fun i b row e1 e2 => Same.sqt s (h3 i b row e1 e2)⟩
theorem RowsQ.p {a : Addr} {rows : List (List Int)} (r : RowsQ K H a rows) : RowsP K H a rows := let ⟨as, h1, h2⟩ := r; ⟨as, .inl h1, h2⟩
theorem RowsP.mono {a : Addr} {rows : List (List Int)} (s : Same H H') (r : RowsP K H a rows) : RowsP K H' a rows := by
  obtain ⟨as, h1, h2, h3⟩ := r
  exact ⟨as, h1.imp s.seq (Same.sqt s), h2, fun i b row e1 e2 => Same.sqt s (h3 i b row e1 e2)⟩
theorem nth_row {as : List Addr} {rows : List (List Int)} (h2 : as.length = rows.length) (h3 : ∀ (i : Nat) (b : Addr) (row : List Int), as[i]? = some b → rows[i]? = some row → SqT K H b (row.map V.int)) {i : Nat} {x : V} (hx : (as.map V.ref)[i]? = some x) :
    ∃ b, x = .ref b ∧ i < rows.length ∧ SqT K H b ((Sx.row rows i).map V.int) := by
  rw [List.getElem?_map] at hx
  cases e : as[i]? with
  | none => rw [e] at hx; cases hx
  | some b =>
    rw [e] at hx
    have hi := (List.getElem?_eq_some_iff.mp e).1
    refine ⟨b, (Option.some.inj hx).symm, by omega, ?_⟩
    have := h3 i b rows[i] e (List.getElem?_eq_getElem (by omega))
    rw [show Sx.row rows i = rows[i] by simp [Sx.row, show i < rows.length by omega]]
    exact this
theorem dp_rows : ∀ {as : List Addr} {rows : List (List Int)}, as.length = rows.length → (∀ (i : Nat) (b : Addr) (row : List Int), as[i]? = some b → rows[i]? = some row → SqT K H b (row.map V.int)) → DpAll K H (as.map V.ref) (rows.map fun r => PyData.tuple (r.map PyData.int))
  | [], [], _, _ => .nil
  | [], _ :: _, h, _ => by simp at h
  | _ :: _, [], h, _ => by simp at h
  | a :: as, r :: rows, h, g => .cons (.tup (g 0 a r rfl rfl) (dp_ints r)) (dp_rows (by simpa using h) fun i b row e1 e2 => g (i + 1) b row e1 e2)
theorem lay_rows : ∀ rows : List (List Int), PyData.canLayAll0 (rows.map fun r => PyData.tuple (r.map PyData.int)) = true
  | [] => by simp [PyData.canLayAll0]
  | n :: r => by
    rw [List.map_cons, PyData.canLayAll0, lay_rows r, PyData.canLay0, lay_ints]; rfl
theorem dep_rows : ∀ rows : List (List Int), PyData.depthAll (rows.map fun r => PyData.tuple (r.map PyData.int)) ≤ 1
  | [] => by simp [PyData.depthAll]
  | n :: r => by
    rw [List.map_cons, PyData.depthAll, PyData.depth, dep_ints]
    have := dep_rows r
    omega
theorem shaped_rows (rows : List (List Int)) : SeqAt.shaped (.list (rows.map fun r => PyData.tuple (r.map PyData.int))) = true := by
  unfold SeqAt.shaped
  rw [PyData.canLay0, lay_rows, PyData.depth]
  have := dep_rows rows
  simp; omega
theorem shapedT_rows (rows : List (List Int)) : SeqAt.shaped (.tuple (rows.map fun r => PyData.tuple (r.map PyData.int))) = true := by
  unfold SeqAt.shaped
  rw [PyData.canLay0, lay_rows, PyData.depth]
  have := dep_rows rows
  simp; omega
theorem eqv_rows (rows : List (List Int)) : PyData.eqv (.list (rows.map fun r => PyData.tuple (r.map PyData.int))) (.list []) = rows.isEmpty := by
  cases rows with
  | nil => rw [PyData.eqv, List.map_nil, PyData.eqvAll]; rfl
  | cons n r => rw [PyData.eqv, List.map_cons, PyData.eqvAll]; rfl
theorem eqvT_rows (rows : List (List Int)) : PyData.eqv (.tuple (rows.map fun r => PyData.tuple (r.map PyData.int))) (.list []) = false := by
  rw [PyData.eqv]
  all_goals (intros; simp_all)
/-- rows == [], there are rows -/
theorem eqD_rows {a z : Addr} {rows : List (List Int)} {Q : VK} (h : RowsP K H a rows) (h0 : rows ≠ []) (hz : SqL K H z []) (q : Q (.bl false) H) : rEqD K (.ref a) (.ref z) H Q := by
  obtain ⟨as, h1, h2, h3⟩ := h
  rcases h1 with h1 | h1
  · refine ⟨_, _, .lst h1 (dp_rows h2 h3), .lst hz .nil, shaped_rows rows, shaped_ints [], ?_⟩
    rw [eqv_rows]
    cases rows with
    | nil => exact absurd rfl h0
    | cons _ _ => exact q
  · exact ⟨_, _, .tup h1 (dp_rows h2 h3), .lst hz .nil, shapedT_rows _, shaped_ints [], by rw [eqvT_rows]; exact q⟩
/-- rows != [], rows a list -/
theorem neD_rows {a z : Addr} {as : List Addr} {rows : List (List Int)} {Q : VK} (h1 : SqL K H a (as.map V.ref)) (h2 : as.length = rows.length) (h3 : ∀ (i : Nat) (b : Addr) (row : List Int), as[i]? = some b → rows[i]? = some row → SqT K H b (row.map V.int)) (hz : SqL K H z []) (q : Q (.bl (!rows.isEmpty)) H) : rNeD K (.ref a) (.ref z) H Q :=
  ⟨_, _, .lst h1 (dp_rows h2 h3), .lst hz .nil, shaped_rows rows, shaped_ints [], by rw [eqv_rows]; exact q⟩
/-- a list or a tuple walked -/
theorem iSeq_of {te : TE} {σ : L2.St} {R : It → Hp → Prop} {a : Addr} {xs : List V} (he : ∀ Q : VK, Q (.ref a) H → te σ H Q) (h : SqL K H a xs ∨ SqT K H a xs) (k : ∀ (J : It) (G : Hp → Prop), Walk J xs.length G (YAt xs) → (∀ H', Same H H' → G H') → R J H) : iSeq K te σ H R := by
  rcases h with h | h
  · exact .inl (he _ ⟨a, rfl, ⟨_, h⟩, k _ _ walk_list fun H' s => s.seq h⟩)
  · exact .inr (he _ ⟨a, rfl, ⟨_, h⟩, k _ _ walk_tup fun H' s => Same.sqt s h⟩)
/-- the walk over zip(*columns) -/
theorem walk_zipS {ls : List Nat} {rows : List (List Int)} {m : Nat} (hl : ls.length = rows.length) (h0 : 0 < ls.length) (hr : ∀ i, i < rows.length → (rows.getD i []).length = m) :
    Walk (ItZ K ls) m (fun H => ItemsL K H ls rows) (fun i H v H' => ∃ T, v = .ref T ∧ H T = none ∧ H' = upd H T (.tup (((List.range rows.length).map fun j => cell rows j i).map V.int))) := by
  have at_ : ∀ (H : Hp) (j l : Nat), ItemsL K H ls rows → ls[j]? = some l → SqL K H l ((rows.getD j []).map V.int) ∧ j < rows.length := fun H j l g e => by
    have hj := (List.getElem?_eq_some_iff.mp e).1
    have := g.2 j l rows[j] e (List.getElem?_eq_getElem (by omega))
    rw [show rows.getD j [] = rows[j] by simp [show j < rows.length by omega]]
    exact ⟨this, by omega⟩
  refine ⟨fun i H hi g l hm => ?_, fun H g => ?_, fun i H x H' hi g y => ?_⟩
  · obtain ⟨j, hj, e⟩ := List.getElem_of_mem hm
    obtain ⟨q, hj2⟩ := at_ H j l g (by rw [List.getElem?_eq_getElem hj, e])
    exact ⟨_, q, by rw [List.length_map, hr j hj2]; exact hi⟩
  · obtain ⟨q, hj2⟩ := at_ H 0 ls[0] g (List.getElem?_eq_getElem h0)
    exact ⟨ls[0], _, List.getElem?_eq_getElem h0, q, by rw [List.length_map, hr 0 hj2]; exact Nat.le_refl _⟩
  · obtain ⟨T, row, rfl, nT, rfl, lr, hx⟩ := y
    refine ⟨T, rfl, nT, ?_⟩
    have : row = ((List.range rows.length).map fun j => cell rows j i).map V.int := by
      refine List.ext_getElem? fun j => ?_
      by_cases hj : j < ls.length
      · obtain ⟨q, hj2⟩ := at_ H j ls[j] g (List.getElem?_eq_getElem hj)
        rw [hx j ls[j] _ (List.getElem?_eq_getElem hj) q]
        have h5 := hr j hj2
        have h6 : i < (rows.getD j []).length := by omega
        rw [List.getElem?_map, List.getElem?_eq_getElem h6]
        rw [List.getElem?_map, List.getElem?_map, List.getElem?_range hj2]
        show some (V.int _) = some (V.int (cell rows j i))
        have : cell rows j i = (rows.getD j [])[i] := by
          unfold Sx.cell
          rw [List.getD_eq_getElem?_getD, List.getElem?_eq_getElem h6]; rfl
        rw [this]
      · rw [List.getElem?_eq_none (by omega), List.getElem?_eq_none (by simp; omega)]
    rw [this]
end
end Ls
end
section
set_option maxRecDepth 100000
set_option maxHeartbeats 4000000
namespace Ls
open PySem PySem.Spec PyProof.Rows L2
open Sx (cell Shape without newRow chooseT LeaveT gcdL ind markedRow marked Good duals nums vals times valS cols lines pb)
/-- the class Table as it is made -/
structure MkD (P : Program) (w : World) (K : PySem.W.Frag) (mg : Str → Option Value) (base : Heap) (C : Addr) (k : Nat) (x : Str) (ps : List Str) (sp : Sp) : Prop where
  ex : ∃ f fd, Mk K C f ∧ FnOk P w K mg base CX0 k f fd ps sp ∧ mg x = some (.ref C) ∧ Binds K fd ps []
theorem pe_mk {X : Cx} {C : Addr} {k : Nat} {x : Str} {ps : List Str} {sp : Sp} {e : Expr} {es : List Expr} {t : TA} {p pos : Pos} (D : MkD X.prog X.w X.K X.mg X.base C k x ps sp) (hr : Room (k + 1) X.A) (hg : Gl X x) (ha : PA X (e :: es) t) (hdb : (x == ("__debug__" : Str)) = false := by decide)
    (hs : starEach (e :: es) X.env = (false, eval e X.env) :: starEach es X.env := by rfl) (hpl : (backTo pos (starEach es X.env)).any (·.1) = false := by rfl) :
    PE X (.Call (.Name x p) (e :: es) [] pos) (tMake C sp [] E0 t) := by
  obtain ⟨f, fd, M, F, hm, hb⟩ := D.ex
  exact pe_make M F hr hg hm hb .nil pass0 ha hdb hs hpl
def strV (s : String) : V := .str (Str.ofString s)
/-- what is told stands at D -/
def ToldAt (K : PySem.W.Frag) (H : Hp) (D : Addr) (R E : List (List Int)) (size : Nat) : Prop :=
  (∃ D1 y, H D = some (.tup [strV "below", .ref D1]) ∧ SqT K H D1 (y.map V.int) ∧ Sx.Below R E size y) ∨
  (∃ D1 D2 x z, H D = some (.tup [strV "cancel", .ref D1, .ref D2]) ∧ SqT K H D1 (x.map V.int) ∧ SqT K H D2 (z.map V.int) ∧ Sx.Cancel R E size x z)
section
variable {P : Program} {w : World} {K : PySem.W.Frag} {mg : Str → Option Value} {base : Heap} {C : Addr}
def spBeside (K : PySem.W.Frag) : Sp := fun vs H Q _ => ∃ (a e : Addr) (R E : List (List Int)) (size : Nat), vs = [.ref a, .ref e] ∧ RowsP K H e E ∧ (∀ i, i < R.length → (Sx.row R i).length = size) ∧ (∀ i, i < E.length → (Sx.row E i).length = size) ∧ size ≤ 20 ∧ R.length + 2 * E.length ≤ 100 ∧
  ((R = [] ∧ SqL K H a [] ∧ RowsQ K H e E ∧ ∀ D D1 H', Same H H' → H' D = some (.tup [strV "below", .ref D1]) → SqT K H' D1 ((if E = [] then [] else List.replicate size (0 : Int)).map V.int) → Q (.ref D) H') ∨
   (R ≠ [] ∧ RowsP K H a R ∧ (∀ i k, (cell R i k).natAbs < 2 ^ 100) ∧ (∀ i k, (cell E i k).natAbs < 2 ^ 100) ∧ ∀ D H', Same H H' → ToldAt K H' D R E size → Q (.ref D) H'))
theorem ok_beside {f : Addr} {fd : FuncData} (F : Fun K "parted_beside" "parted_beside" s_parted_beside f fd) (T : TT K mg C) (D_Table : MkD P w K mg base C 2 "Table" ["self", "several"] (spInit K C))
    (M_lead : Md P w K mg base C 4 "lead" ["self"] (spLead K C)) (D_numbers_in : Df P w K mg base 2 "numbers_in" ["table"] (spNumbers K C)) (D_times_in : Df P w K mg base 2 "times_in" ["table"] (spTimes K C)) : FnOk P w K mg base CX0 5 f fd ["rows", "even"] (spBeside K) := by
  refine F.ok sc_parted_beside (fun vs H Q E h => ?_) (fun cdv A outer s H vs Q E hr h => ?_)
  · obtain ⟨a, e, R, E, size, rfl, _⟩ := h
    rfl
  · obtain ⟨a, e, R, EE, size, rfl, hE, lR, lE, hs, hn, h⟩ := h
    refine ⟨_, (pss_cons (ps_if (pt_cmpR (keqD K hr.units) (pv 0) (pe_lst pa_nil) (nomark _)) (pss_one (ps_ret (pe_tup (pa_cons pe_str (pa_cons (pe_ifExp (pt_cmpR (kneD K hr.units) (pv 1) (pe_lst pa_nil) (nomark _)) (pe_callTy (ktuple K) (by rfl) T.b_tuple (by decide +kernel) (pa_cons (pe_lc (own := [("number", 12)]) (g := gName 12) (tt := tYes) rfl sc_parted_beside.nd (kfor_tup K (pe_ix (kixL K) (pv 1) pe_int (fun _ _ => rfl))) (blkOk_by (own := [("number", 12)]) (N := ["rows", "even", "columns", "table", "times", "many", "ups", "downs", "row", "line", "up", "down", "number"]) (sc := defScope s_parted_beside) (by decide +kernel)) (fun _ _ _ _ _ => (pg_name (i := 12) sc_parted_beside.nd rfl (Or.inl rfl))) (fun _ _ _ _ _ => pts_nil) (fun _ _ _ _ _ => pe_int)) pa_nil)) (pe_tup pa_nil)) pa_nil))))) pss_nil)
      (pss_cons (ps_setLc (i := 2) (own := [("row", 8)]) (g := gName 8) (tt := tYes) rfl sc_parted_beside.nd rfl rfl (sw_true rfl rfl rfl (by decide +kernel)) (kfor_seq K (pv 0)) (blkOk_by (own := [("row", 8)]) (N := ["rows", "even", "columns", "table", "times", "many", "ups", "downs", "row", "line", "up", "down", "number"]) (sc := defScope s_parted_beside) (by decide +kernel)) (fun _ _ _ _ _ => (pg_name (i := 8) sc_parted_beside.nd rfl (by first | exact Or.inl rfl | exact Or.inr rfl))) (fun _ _ _ _ _ => pts_nil) (fun _ _ _ _ _ => (pe_lst (kstar K (pv 8) (pa_cons pe_int pa_nil)))))
      (pss_cons (ps_expr (pe_bm PySem.F.plainAttrs_list PySem.F.slot_list_extend PySem.F.type_list_extend mt_extend (pv 2) (pa_cons (pe_lc (own := [("row", 8)]) (g := gName 8) (tt := tYes) rfl sc_parted_beside.nd (kfor_seq K (pv 1)) (blkOk_by (own := [("row", 8)]) (N := ["rows", "even", "columns", "table", "times", "many", "ups", "downs", "row", "line", "up", "down", "number"]) (sc := defScope s_parted_beside) (by decide +kernel)) (fun _ _ _ _ _ => (pg_name (i := 8) sc_parted_beside.nd rfl (by first | exact Or.inl rfl | exact Or.inr rfl))) (fun _ _ _ _ _ => pts_nil) (fun _ _ _ _ _ => (pe_lst (kstar K (pv 8) (pa_cons pe_int pa_nil))))) pa_nil)))
      (pss_cons (ps_expr (pe_bm PySem.F.plainAttrs_list PySem.F.slot_list_extend PySem.F.type_list_extend mt_extend (pv 2) (pa_cons (pe_lc (own := [("row", 8)]) (g := gName 8) (tt := tYes) rfl sc_parted_beside.nd (kfor_seq K (pv 1)) (blkOk_by (own := [("row", 8)]) (N := ["rows", "even", "columns", "table", "times", "many", "ups", "downs", "row", "line", "up", "down", "number"]) (sc := defScope s_parted_beside) (by decide +kernel)) (fun _ _ _ _ _ => (pg_name (i := 8) sc_parted_beside.nd rfl (by first | exact Or.inl rfl | exact Or.inr rfl))) (fun _ _ _ _ _ => pts_nil) (fun _ _ _ _ _ => (pe_lst (kstar K (pe_lc (own := [("number", 12)]) (g := gName 12) (tt := tYes) rfl sc_parted_beside.nd (kfor_tup K (pv 8)) (blkOk_by (own := [("number", 12)]) (N := ["rows", "even", "columns", "table", "times", "many", "ups", "downs", "row", "line", "up", "down", "number"]) (sc := relS _ (defScope s_parted_beside)) (by decide +kernel)) (fun _ _ _ _ _ => (pg_name (i := 12) sc_parted_beside.nd rfl (by first | exact Or.inl rfl | exact Or.inr rfl))) (fun _ _ _ _ _ => pts_nil) (fun _ _ _ _ _ => (pe_op op_sub pe_int (pv 12)))) (pa_cons pe_int pa_nil))))) pa_nil)))
      (pss_cons (ps_set (i := 3) sc_parted_beside.nd rfl (Or.inl rfl) (pe_mk D_Table (hr.mono (by decide)) (by rfl) (pa_cons (pe_lc (own := [("line", 9)]) (g := gName 9) (tt := tYes) rfl sc_parted_beside.nd (kzipS K T.b_zip (pv 2)) (blkOk_by (own := [("line", 9)]) (N := ["rows", "even", "columns", "table", "times", "many", "ups", "downs", "row", "line", "up", "down", "number"]) (sc := defScope s_parted_beside) (by decide +kernel)) (fun _ _ _ _ _ => (pg_name (i := 9) sc_parted_beside.nd rfl (Or.inl rfl))) (fun _ _ _ _ _ => pts_nil) (fun _ _ _ _ _ => (pe_callTy (klist K) (by rfl) T.b_list (by decide +kernel) (pa_cons (pv 9) pa_nil)))) pa_nil)))
      (pss_cons (ps_expr (pe_md0 M_lead T.cl (hr.mono (by decide)) (pv 3)))
      (pss_cons (ps_if (pt_cmpR op_ne (pe_ix (kixL K) (kfld K (pv 3)) (pe_un un_neg pe_int) (fun _ _ => rfl)) pe_int (nomark _)) (pss_one (ps_ret (pe_tup (pa_cons pe_str (pa_cons (pe_df D_numbers_in (hr.mono (by decide)) (by rfl) (pa_cons (pv 3) pa_nil)) pa_nil))))) pss_nil)
      (pss_cons (ps_par (i := 4) (j := 5) (by rfl) sc_parted_beside.nd rfl rfl (by decide) rfl rfl (pa_cons (pe_df D_times_in (hr.mono (by decide)) (by rfl) (pa_cons (pv 3) pa_nil)) (pa_cons (pe_callB (klen K) (by rfl) T.b_len (by decide +kernel) (pa_cons (pv 0) pa_nil)) pa_nil)) (by rfl))
      (pss_cons (ps_par (i := 6) (j := 7) (by rfl) sc_parted_beside.nd rfl rfl (by decide) rfl rfl (pa_cons (pe_slice (kslL K) (pv 4) (po_some (pv 5)) (po_some (pe_op op_add (pv 5) (pe_callB (klen K) (by rfl) T.b_len (by decide +kernel) (pa_cons (pv 1) pa_nil))))) (pa_cons (pe_slice (kslL K) (pv 4) (po_some (pe_op op_add (pv 5) (pe_callB (klen K) (by rfl) T.b_len (by decide +kernel) (pa_cons (pv 1) pa_nil)))) po_none) pa_nil)) (by rfl))
      (pss_one (ps_ret (pe_tup (pa_cons pe_str (pa_cons (pe_callTy (ktuple K) (by rfl) T.b_tuple (by decide +kernel) (pa_cons (pe_slice (kslL K) (pv 4) po_none (po_some (pv 5))) pa_nil)) (pa_cons (pe_callTy (ktuple K) (by rfl) T.b_tuple (by decide +kernel) (pa_cons (pe_lc (own := [("up", 10), ("down", 11)]) (g := gTup K 2 (gCons (gName 10) (gCons (gName 11) gNil))) (tt := tYes) rfl sc_parted_beside.nd (kzip K T.b_zip (pa_cons (pv 6) (pa_cons (pv 7) pa_nil))) (blkOk_by (own := [("up", 10), ("down", 11)]) (N := ["rows", "even", "columns", "table", "times", "many", "ups", "downs", "row", "line", "up", "down", "number"]) (sc := defScope s_parted_beside) (by decide +kernel)) (fun _ _ _ _ _ => (kg_tup K (pgs_cons (pg_name (i := 10) sc_parted_beside.nd rfl (Or.inl rfl)) (pgs_cons (pg_name (i := 11) sc_parted_beside.nd rfl (Or.inl rfl)) pgs_nil)))) (fun _ _ _ _ _ => pts_nil) (fun _ _ _ _ _ => (pe_op op_sub (pv 10) (pv 11)))) pa_nil)) pa_nil))))))))))))))), ?_⟩
    refine ⟨_, rfl, Nat.zero_le _, fun z nz => ?_⟩
    have sz : Same H (upd H z (.lst [])) := same_new nz
    rcases h with ⟨rfl, hA, hel, k⟩ | ⟨hne, hR, bR, bE, k⟩
    · refine eqD_nil (ns := []) (sz.seq hA) (.inl (.inl upd_same)) ⟨_, rfl, iteT ?_⟩
      obtain ⟨es, e1, e2, e3⟩ := hel
      refine ⟨_, rfl, Nat.zero_le _, fun z2 nz2 => ?_⟩
      have sz2 := sz.trans (same_new (o := .lst []) nz2)
      refine neD_rows (sz2.seq e1) e2 (fun i b row q1 q2 => Same.sqt sz2 (e3 i b row q1 q2)) (.inl (.inl upd_same)) ⟨_, rfl, ?_⟩
      cases EE with
      | nil =>
        refine iteF ⟨Nat.zero_le _, fun p np => ⟨by show 2 ≤ sizeLine; decide, fun D nD => ?_⟩⟩
        have sp := same_new (o := .tup []) np
        have sD := same_new (o := .tup [strV "below", .ref p]) nD
        exact k D p _ ((sz2.trans sp).trans sD) upd_same (.inl (.inl (sD _ _ upd_same)))
      | cons r0 rs =>
        have he0 : 0 < es.length := by rw [e2]; simp
        have q4 : SqT K H es[0] (r0.map V.int) := e3 0 es[0] r0 (List.getElem?_eq_getElem he0) rfl
        have l0 : r0.length = size := lE 0 (by simp)
        refine iteT ⟨.ref e, rfl, e, es.map V.ref, 0, .ref es[0], rfl, rfl, sz2.seq e1, atI_nat (j := 0) (by simp [he0]), es[0], rfl, ⟨_, Same.sqt sz2 q4⟩, ?_⟩
        refine fun D nD => lc_ints (h := Hid.no) (walk_tup (K := K) (a := es[0]) (xs := r0.map V.int)) nD trivial (by simp; omega) (fun _ => 0) (fun H' s' => (by rw [cut_no, cut_no] at s'; exact Same.sqt (sz2.trans s') q4)) ?_ ?_
        · rintro i x H3 H3' hi le3 _ ⟨rfl, hx⟩ Q' kk
          exact ⟨rfl, kk H3' (Le.refl trivial) rfl⟩
        intro H4 le4 eM
        rw [cut_no] at eM
        refine ⟨D, _, rfl, .inl ⟨.inl (.inl eM), fun p np => ⟨by show 2 ≤ sizeLine; decide, fun D2 nD2 => ?_⟩⟩⟩
        have sp := same_new (o := .tup (((List.range (r0.map V.int).length).map fun _ => (0 : Int)).map V.int)) np
        have sD := same_new (o := .tup [strV "below", .ref p]) nD2
        refine k D2 p _ (((sz2.trans le4.no).trans sp).trans sD) upd_same (.inl (.inl ?_))
        have ez : (if r0 :: rs = [] then [] else List.replicate size (0 : Int)) = (List.range (r0.map V.int).length).map fun _ => (0 : Int) := by
          rw [if_neg (by simp)]
          refine List.ext_getElem (by simp [l0]) fun i h1 h2 => by simp
        rw [ez]
        exact sD _ _ upd_same
    · refine eqD_rows (hR.mono sz) hne (.inl (.inl upd_same)) ⟨_, rfl, iteF ?_⟩
      obtain ⟨as, a1, a2, a3⟩ := hR.mono sz
      obtain ⟨es, b1, b2, b3⟩ := hE.mono sz
      refine iSeq_of (a := a) (fun Q q => ⟨_, rfl, q⟩) a1 fun J G w hG => ?_
      refine fun c nc => lc_all (h := Hid.no) w nc trivial (by simp; omega) (fun i v H => ∃ b, v = .ref b ∧ SqL K H b ((Sx.row R i ++ [1]).map V.int)) (fun i v H1 H2 s' ⟨b, e, q⟩ => ⟨b, e, s'.seq q⟩) (fun H' s' => (by rw [cut_no, cut_no] at s'; exact hG H' s')) ?_ ?_
      · rintro i x H3 H3' hi le3 ⟨xs, hD⟩ ⟨rfl, hx⟩ Q' kk
        obtain ⟨b, rfl, hi2, hb⟩ := nth_row a2 a3 hx
        have hl := lR i hi2
        refine ⟨rfl, .ref b, rfl, b, _, rfl, .inl (Same.sqt le3.no hb), by simp; rw [sizeLine_eq]; omega, fun q nq => ?_⟩
        have nqc : q ≠ c := fun z => by rw [z, hD] at nq; cases nq
        refine kk (.ref q) _ (Le.new trivial nq) (upd_ne (Ne.symm nqc)) ⟨q, rfl, .inl (.inl ?_)⟩
        rw [cut_ne (by intro z; rcases List.mem_cons.mp z with z | z; exact nqc z; cases z), upd_same, List.map_append]; rfl
      intro H1 ys le1 ec ly hys
      rw [cut_no] at ec
      have s1 := sz.trans le1.no
      rw [List.length_map, a2] at ly
      obtain ⟨cs, rfl, ic1⟩ := items_of (fun i => Sx.row R i ++ [1]) ly hys
      let Hz := upd H z (.lst [])
      have hz1 : Same Hz H1 := le1.no
      have ncz : Hz c = none := nc
      refine ⟨_, rfl, .inl ⟨rfl, _, .inl (.inl ec)⟩, ?_⟩
      refine iSeq_of (a := e) (fun Q q => ⟨_, rfl, q⟩) (b1.imp hz1.seq (Same.sqt hz1)) fun J G w hG => ?_
      refine fun D2 nD2 => lc_all (h := Hid.no) w nD2 trivial (by simp; omega) (fun i v H => ∃ b, v = .ref b ∧ b ≠ c ∧ SqL K H b ((Sx.row EE i ++ [0]).map V.int)) (fun i v H1 H2 s' ⟨b, e, nb, q⟩ => ⟨b, e, nb, s'.seq q⟩) (fun H' s' => (by rw [cut_no, cut_no] at s'; exact hG H' s')) ?_ ?_
      · rintro i x H3 H3' hi le3 ⟨xs, hD⟩ ⟨rfl, hx⟩ Q' kk
        obtain ⟨b, rfl, hi2, hb⟩ := nth_row b2 b3 hx
        have hl := lE i hi2
        refine ⟨rfl, .ref b, rfl, b, _, rfl, .inl (Same.sqt (hz1.trans le3.no) hb), by simp; rw [sizeLine_eq]; omega, fun q nq => ?_⟩
        have nqD : q ≠ D2 := fun z => by rw [z, hD] at nq; cases nq
        have nqc : q ≠ c := fun z => by rw [z, le3.no _ _ ec] at nq; cases nq
        refine kk (.ref q) _ (Le.new trivial nq) (upd_ne (Ne.symm nqD)) ⟨q, rfl, nqc, .inl (.inl ?_)⟩
        rw [cut_ne (by intro z; rcases List.mem_cons.mp z with z | z; exact nqD z; cases z), upd_same, List.map_append]; rfl
      intro H2 ys2 le2 eD2 ly2 hys2
      rw [cut_no] at eD2
      rw [List.length_map, b2] at ly2
      have s12 : Same H1 H2 := le2.no
      have ec2 : H2 c = some (.lst (cs.map V.ref)) := s12 _ _ ec
      obtain ⟨ds, rfl, ic2⟩ := items_of (K := K) (H := cut [c] H2) (fun i => Sx.row EE i ++ [0]) ly2 fun i y e => by
        obtain ⟨b, eb, nb, q⟩ := hys2 i y e
        exact ⟨b, eb, sql_cut (cut_same.seq q) (by simp [nb])⟩
      have lcs := ic1.1
      have lds := ic2.1
      rw [List.length_map, List.length_range] at lcs lds
      refine ⟨c, D2, _, _, rfl, rfl, ec2, eD2, by rw [List.length_map, List.length_map, sizeLine_eq]; omega, ?_⟩
      rw [← List.map_append]
      have ic12 := (ic1.mono (cut_mono s12)).append ic2
      let H2' := upd H2 c (.lst ((cs ++ ds).map V.ref))
      have hz2 : Same Hz H2' := same_mut (hz1.trans s12) ncz
      have ec2' : H2' c = some (.lst ((cs ++ ds).map V.ref)) := upd_same
      have cc2 : cut [c] H2' = cut [c] H2 := cut_cons
      refine ⟨_, rfl, .inl ⟨rfl, _, .inl (.inl ec2')⟩, ?_⟩
      refine iSeq_of (a := e) (fun Q q => ⟨_, rfl, q⟩) (b1.imp hz2.seq (Same.sqt hz2)) fun J G w hG => ?_
      refine fun D3 nD3 => lc_all (h := Hid.no) w nD3 trivial (by simp; omega) (fun i v H => ∃ b, v = .ref b ∧ b ≠ c ∧ SqL K H b (((Sx.row EE i).map (fun x => 0 - x) ++ [0]).map V.int)) (fun i v H1 H2 s' ⟨b, e, nb, q⟩ => ⟨b, e, nb, s'.seq q⟩) (fun H' s' => (by rw [cut_no, cut_no] at s'; exact hG H' s')) ?_ ?_
      · rintro i x H3 H3' hi le3 ⟨xs, hD⟩ ⟨rfl, hx⟩ Q' kk
        obtain ⟨b, rfl, hi2, hb⟩ := nth_row b2 b3 hx
        have hl := lE i hi2
        have hb3 := Same.sqt (hz2.trans le3.no) hb
        refine ⟨rfl, .ref b, rfl, b, rfl, ⟨_, hb3⟩, ?_⟩
        refine fun D4 nD4 => lc_ints (h := Hid.no) (walk_tup (K := K) (a := b) (xs := (Sx.row EE i).map V.int)) nD4 trivial (by simp; omega) (fun k => 0 - (Sx.row EE i).getD k 0) (fun H' s' => (by rw [cut_no, cut_no] at s'; exact Same.sqt s' hb3)) ?_ ?_
        · rintro k x H5 H5' hk le5 _ ⟨rfl, hx⟩ Q2 kk2
          have hk2 : k < (Sx.row EE i).length := by simpa using hk
          have ex : x = .int ((Sx.row EE i).getD k 0) := by
            have : ((Sx.row EE i).map V.int)[k]? = some (.int ((Sx.row EE i).getD k 0)) := by simp [hk2]
            exact Option.some.inj (hx.symm.trans this)
          subst ex
          exact ⟨rfl, _, rfl, _, _, rfl, rfl, kk2 H5' (Le.refl trivial) rfl⟩
        intro H4 le4 eM4
        rw [cut_no] at eM4
        rw [show ((Sx.row EE i).map V.int).length = (Sx.row EE i).length by simp] at eM4
        have eneg : ((List.range (Sx.row EE i).length).map fun k => 0 - (Sx.row EE i).getD k 0) = (Sx.row EE i).map (fun x => 0 - x) := by
          refine List.ext_getElem (by simp) fun k h1 h2 => ?_
          simp at h1
          simp [h1]
        rw [eneg] at eM4
        refine ⟨D4, _, rfl, .inr (.inl (.inl eM4)), by simp; rw [sizeLine_eq]; omega, fun q nq => ?_⟩
        have hD4 := le4.no _ _ hD
        have nqD : q ≠ D3 := fun z => by rw [z, hD4] at nq; cases nq
        have nqc : q ≠ c := fun z => by rw [z, (le3.no.trans le4.no) _ _ ec2'] at nq; cases nq
        refine kk (.ref q) _ (le4.trans (Le.new trivial nq)) ((upd_ne (Ne.symm nqD)).trans (hD4.trans hD.symm)) ⟨q, rfl, nqc, .inl (.inl ?_)⟩
        rw [cut_ne (by intro z; rcases List.mem_cons.mp z with z | z; exact nqD z; cases z), upd_same, List.map_append]; rfl
      intro H3 ys3 le3 eD3 ly3 hys3
      rw [cut_no] at eD3
      rw [List.length_map, b2] at ly3
      have s23 : Same H2' H3 := le3.no
      have ec3 : H3 c = some (.lst ((cs ++ ds).map V.ref)) := s23 _ _ ec2'
      obtain ⟨gs, rfl, ic3⟩ := items_of (K := K) (H := cut [c] H3) (fun i => (Sx.row EE i).map (fun x => 0 - x) ++ [0]) ly3 fun i y e => by
        obtain ⟨b, eb, nb, q⟩ := hys3 i y e
        exact ⟨b, eb, sql_cut (cut_same.seq q) (by simp [nb])⟩
      have lgs := ic3.1
      rw [List.length_map, List.length_range] at lgs
      refine ⟨c, D3, _, _, rfl, rfl, ec3, eD3, by rw [List.length_map, List.length_append, List.length_map, sizeLine_eq]; omega, ?_⟩
      rw [← List.map_append]
      have ic12' : ItemsL K (cut [c] H2') (cs ++ ds) (((List.range R.length).map fun i => Sx.row R i ++ [1]) ++ ((List.range EE.length).map fun i => Sx.row EE i ++ [0])) := by rw [cc2]; exact ic12
      have ic123 := (ic12'.mono (cut_mono s23)).append ic3
      let H4 := upd H3 c (.lst ((cs ++ ds ++ gs).map V.ref))
      have hz4 : Same Hz H4 := same_mut (hz2.trans s23) ncz
      have ec4 : H4 c = some (.lst ((cs ++ ds ++ gs).map V.ref)) := upd_same
      have cc4 : cut [c] H4 = cut [c] H3 := cut_cons
      have ecols : (((List.range R.length).map fun i => Sx.row R i ++ [1]) ++ ((List.range EE.length).map fun i => Sx.row EE i ++ [0])) ++ ((List.range EE.length).map fun i => (Sx.row EE i).map (fun x => 0 - x) ++ [0]) = cols R EE := by
        have g : ∀ (M : List (List Int)) (f : List Int → List Int), ((List.range M.length).map fun i => f (Sx.row M i)) = M.map f := fun M f => by
          refine List.ext_getElem (by simp) fun k h1 h2 => ?_
          simp at h1
          simp [Sx.row, h1]
        unfold cols
        rw [g R (fun r => r ++ [1]), g EE (fun r => r ++ [0]), g EE (fun r => r.map (fun x => 0 - x) ++ [0]), List.append_assoc]
      have ic4 : ItemsL K H4 (cs ++ ds ++ gs) (cols R EE) := by
        rw [ecols, ← cc4] at ic123
        exact ic123.mono cut_same
      have l4 := ic4.1
      rw [Sx.cols_len] at l4
      have hR0 : 0 < R.length := by
        cases R with
        | nil => exact absurd rfl hne
        | cons _ _ => simp
      have clen := Sx.cols_each lR lE
      refine ⟨_, rfl, c, cs ++ ds ++ gs, rfl, .inl (.inl ec4), by omega, by omega, fun l hl => ?_, ?_⟩
      · obtain ⟨j, hj, e⟩ := List.getElem_of_mem hl
        have hj2 : j < (cols R EE).length := by rw [Sx.cols_len]; omega
        exact ⟨_, ic4.2 j l _ (by rw [List.getElem?_eq_getElem hj, e]) (List.getElem?_eq_getElem hj2)⟩
      refine fun L nL => lc_all (h := Hid.no) (walk_zipS ic4.1 (by omega) clen) nL trivial (by omega) (fun i v H => ∃ b, v = .ref b ∧ SqL K H b (((List.range (cols R EE).length).map fun j => cell (cols R EE) j i).map V.int)) (fun i v H1 H2 s' ⟨b, e, q⟩ => ⟨b, e, s'.seq q⟩) (fun H' s' => (by rw [cut_no, cut_no] at s'; exact ic4.mono s')) ?_ ?_
      · rintro i x H5 H5' hi le5 ⟨xs, hD⟩ ⟨T1, rfl, nT, rfl⟩ Q' kk
        refine ⟨rfl, .ref T1, rfl, T1, _, rfl, .inr (.inl (.inl upd_same)), fun q nq => ?_⟩
        have nTL : T1 ≠ L := fun z => by rw [z, hD] at nT; cases nT
        have nqL : q ≠ L := fun z => by rw [z, upd_ne (Ne.symm nTL), hD] at nq; cases nq
        refine kk (.ref q) _ ((Le.new trivial nT).trans (Le.new trivial nq)) ((upd_ne (Ne.symm nqL)).trans (upd_ne (Ne.symm nTL))) ⟨q, rfl, .inl (.inl ?_)⟩
        rw [cut_ne (by intro z; rcases List.mem_cons.mp z with z | z; exact nqL z; cases z), upd_same]
      intro H6 ys6 le6 eL ly6 hys6
      rw [cut_no] at eL
      have s46 : Same H4 H6 := le6.no
      have hz6 := hz4.trans s46
      intro p dx np ndx npd
      let Hx := upd (upd H6 dx (.own p)) p (.ins C dx [])
      have sx : Same H6 Hx := fun b o e => (upd_ne (ne_of_none e np)).trans ((upd_ne (ne_of_none e ndx)).trans e)
      have sxc : Same H6 (cut [p] Hx) := fun b o e => by
        have nb : b ≠ p := ne_of_none e np
        rw [cut_ne (by simp [nb])]; exact sx b o e
      have rL : RowsL K (cut [p] Hx) L (lines (size + 1) (cols R EE)) := by
        refine RowsL.of (n := size + 1) _ (.inl (.inl (sxc _ _ eL))) ly6 fun i y e => ?_
        obtain ⟨b, eb, q⟩ := hys6 i y e
        exact ⟨b, eb, sxc.seq (cut_same.seq q)⟩
      have clen2 := Sx.cols_len (R := R) (E := EE)
      refine ⟨p, dx, L, lines (size + 1) (cols R EE), size + 1, R.length + 2 * EE.length, rfl, upd_same, rL, Sx.lines_len, by omega, by omega, by omega, fun i hi => by rw [Sx.lines_each i hi, clen2], fun cc H7 pcc ncc s7 tab => ⟨rfl, ?_⟩⟩
      have ncc6 : H6 cc = none := none_of sx ncc
      have s67 : Same H6 H7 := same_cut (T := [p]) (fun a ha => by rw [List.mem_singleton.mp ha]; exact np) sx s7
      have G0 : Good (pb R EE size) (Sx.start (size + 1) (R.length + 2 * EE.length) (lines (size + 1) (cols R EE))) := Sx.start_good (Nat.succ_pos size) Sx.lines_len fun i hi => by rw [Sx.lines_each i hi, clen2]
      obtain ⟨⟨dx1, ra1, l1, e11, _, _⟩, _⟩ := id tab
      refine ⟨.ref p, rfl, p, dx1, _, rfl, e11, rfl, p, cc, _, pb R EE size, rfl, pcc, tab, G0, fun t' G' => Sx.pb_shape lR lE bR bE hs hn G', fun t' H8 s8 tab8 G8 h8 => ?_⟩
      have S8 := Sx.pb_shape lR lE bR bE hs hn G8
      have s68 : Same H6 H8 := same_cut (T := [p, cc]) (fun a ha => by
        rcases List.mem_cons.mp ha with q | q
        · rw [q]; exact np
        · rw [List.mem_singleton.mp q]; exact ncc6) s67 s8
      have h8' := sz.trans (hz6.trans s68)
      have s4H : Same Hz H8 := hz6.trans s68
      obtain ⟨⟨dx2, ra2, l2, e12, e13, e14⟩, e15⟩ := id tab8
      have hll := S8.ll
      have la : atI (t'.lacks.map V.int) (-1) = some (.int (t'.lacks.getD (R.length + 2 * EE.length + (size + 1)) 0)) := by
        have h2 := int_last (ns := t'.lacks) (by omega)
        rw [hll] at h2
        exact h2
      refine ⟨.ref p, rfl, p, C, dx2, _, _, rfl, e12, T.cl, T.n_lacks, tf_lacks, 1, rfl, l2, _, _, _, rfl, rfl, cut_same.seq e14, la, rfl, _, rfl, ?_⟩
      by_cases hz : t'.lacks.getD (R.length + 2 * EE.length + (size + 1)) 0 = 0
      · rw [hz]
        refine iteF ?_
        have cn := Sx.cancel_of lR lE G8 S8 hz
        have gp : 0 < gcdL (vals t' (size + 1) (R.length + 2 * EE.length)) := by
          refine Nat.pos_of_ne_zero fun z => ?_
          have hp := cn.pos
          have : Sx.sm R.length (fun i => ((times t' (size + 1) (R.length + 2 * EE.length)).take R.length).getD i 0) = 0 := Sx.sm_zero fun i hi => by
            rw [List.getD_eq_getElem?_getD, List.getElem?_take_of_lt hi, ← List.getD_eq_getElem?_getD]
            unfold times
            rw [Sx.getD_map (by omega), z]
            exact Int.ediv_zero _
          omega
        refine ⟨.ref p, rfl, p, cc, t', pb R EE size, rfl, tab8, G8, S8, gp, fun D9 H9 s9 e9 => ?_⟩
        have hz9 := s4H.trans s9
        refine ⟨.ref a, rfl, a, as.map V.ref, rfl, a1.imp hz9.seq (Same.sqt hz9), _, _, rfl, ?_⟩
        rw [List.length_map, a2]
        have tl : (times t' (size + 1) (R.length + 2 * EE.length)).length = R.length + 2 * EE.length := by unfold times; simp
        refine ⟨_, rfl, _, rfl, _, rfl, _, rfl, .ref e, rfl, e, es.map V.ref, rfl, b1.imp hz9.seq (Same.sqt hz9), _, _, rfl, rfl, _, rfl, D9, _, rfl, .inl (.inl e9), fun U nU => ?_⟩
        let tm := times t' (size + 1) (R.length + 2 * EE.length)
        let ups := (List.range EE.length).map fun j => tm.getD (R.length + j) 0
        let downs := (List.range EE.length).map fun j => tm.getD (R.length + EE.length + j) 0
        have esum : (R.length : Int) + ((es.map V.ref).length : Nat) = ((R.length + EE.length : Nat) : Int) := by rw [List.length_map, b2]; omega
        have eU : cutV (tm.map V.int) (some (R.length : Int)) (some ((R.length : Int) + ((es.map V.ref).length : Nat))) = ups.map V.int := by
          rw [esum]
          exact cut_some (n := EE.length) (by rw [tl]; omega) (by rw [HT.sIx_nat, tl]; omega)
        have eW : cutV (tm.map V.int) (some ((R.length : Int) + ((es.map V.ref).length : Nat))) none = downs.map V.int := by
          rw [esum]
          exact cut_some (n := EE.length) (by rw [tl]; omega) (by rw [HT.sIx_none, tl]; omega)
        rw [show cutV ((times t' (pb R EE size).m (pb R EE size).n).map V.int) (some (R.length : Int)) (some ((R.length : Int) + ((es.map V.ref).length : Nat))) = ups.map V.int from eU]
        have sU := same_new (o := .lst (ups.map V.int)) nU
        refine ⟨_, rfl, _, rfl, .ref e, rfl, e, es.map V.ref, rfl, b1.imp (hz9.trans sU).seq (Same.sqt (hz9.trans sU)), _, _, rfl, rfl, _, rfl, D9, _, rfl, .inl (.inl (sU _ _ e9)), fun W nW => ⟨_, _, rfl, ?_⟩⟩
        rw [show cutV ((times t' (pb R EE size).m (pb R EE size).n).map V.int) (some ((R.length : Int) + ((es.map V.ref).length : Nat))) none = downs.map V.int from eW]
        have sW := same_new (o := .lst (downs.map V.int)) nW
        refine ⟨_, rfl, _, rfl, _, rfl, D9, _, rfl, .inl (.inl (sW _ _ (sU _ _ e9))), fun Z nZ => ⟨Z, _, rfl, .inl ⟨.inl (.inl upd_same), fun T1 nT1 => ?_⟩⟩⟩
        rw [show cutV ((times t' (pb R EE size).m (pb R EE size).n).map V.int) none (some (R.length : Int)) = (tm.take R.length).map V.int from cut_take]
        have sZ := same_new (o := .lst ((tm.take R.length).map V.int)) nZ
        rw [show cutV ((times t' (pb R EE size).m (pb R EE size).n).map V.int) none (some (R.length : Int)) = (tm.take R.length).map V.int from cut_take] at nT1
        have sT := same_new (o := .tup ((tm.take R.length).map V.int)) nT1
        have eU2 := sT _ _ (sZ _ _ (sW _ _ (upd_same (H := H9) (a := U) (o := .lst (ups.map V.int)))))
        have eW2 := sT _ _ (sZ _ _ (upd_same (H := upd H9 U (.lst (ups.map V.int))) (a := W) (o := .lst (downs.map V.int))))
        refine ⟨_, rfl, _, rfl, U, W, _, _, rfl, .inl (.inl eU2), .inl (.inl eW2), ?_⟩
        refine fun D4 nD4 => lc_ints (h := Hid.no) (walk_zip (n := EE.length) (xs := ups.map V.int) (ys := downs.map V.int) (by simp [ups, downs])) nD4 trivial (by omega) (fun j => tm.getD (R.length + j) 0 - tm.getD (R.length + EE.length + j) 0) (fun H' s' => (by rw [cut_no, cut_no] at s'; exact ⟨s'.seq (.inl (.inl eU2)), s'.seq (.inl (.inl eW2))⟩)) ?_ ?_
        · rintro j x H5 H5' hj le5 ⟨xs, hD⟩ ⟨T2, x1, x2, rfl, nT, rfl, w1, w2⟩ Q' kk
          have w1' : (ups.map V.int)[j]? = some x1 := w1
          have w2' : (downs.map V.int)[j]? = some x2 := w2
          have x1e : x1 = .int (tm.getD (R.length + j) 0) := by
            have : (ups.map V.int)[j]? = some (.int (tm.getD (R.length + j) 0)) := by simp [ups, hj]
            exact Option.some.inj (w1'.symm.trans this)
          have x2e : x2 = .int (tm.getD (R.length + EE.length + j) 0) := by
            have : (downs.map V.int)[j]? = some (.int (tm.getD (R.length + EE.length + j) 0)) := by simp [downs, hj]
            exact Option.some.inj (w2'.symm.trans this)
          subst x1e x2e
          exact ⟨T2, _, rfl, .inl (.inl upd_same), rfl, _, _, rfl, _, _, rfl, rfl, rfl, _, rfl, _, rfl, _, _, rfl, rfl, kk _ (Le.new trivial nT) (upd_ne (ne_of_none hD nT))⟩
        intro H10 le10 e10
        rw [cut_no] at e10
        refine ⟨D4, _, rfl, .inl ⟨.inl (.inl e10), fun T3 nT3 => ⟨by show 3 ≤ sizeLine; decide, fun D0 n0 => ?_⟩⟩⟩
        have sT3 := same_new (o := .tup (((List.range EE.length).map fun j => tm.getD (R.length + j) 0 - tm.getD (R.length + EE.length + j) 0).map V.int)) nT3
        have s0 := same_new (o := .tup [strV "cancel", .ref T1, .ref T3]) n0
        have s10 := le10.no
        refine k D0 _ (((((((h8'.trans s9).trans sU).trans sW).trans sZ).trans sT).trans s10).trans (sT3.trans s0)) (.inr ⟨T1, T3, _, _, upd_same, .inl (.inl ((s10.trans (sT3.trans s0)) _ _ upd_same)), .inl (.inl (s0 _ _ upd_same)), cn⟩)
      · have hzz : (!decide (V.int (t'.lacks.getD (R.length + 2 * EE.length + (size + 1)) 0) = V.int 0)) = true := by
          rw [decide_eq_false fun z => hz (V.int.inj z)]; rfl
        rw [hzz]
        refine iteT ⟨.ref p, rfl, p, cc, t', size + 1, R.length + 2 * EE.length, size, rfl, tab8, G8.n, S8, fun D H9 s9 e9 => ⟨by show 2 ≤ sizeLine; decide, fun D0 n0 => ?_⟩⟩
        have sD := same_new (o := .tup [strV "below", .ref D]) n0
        exact k D0 _ ((h8'.trans s9).trans sD) (.inl ⟨D, _, upd_same, .inl (.inl (sD _ _ e9)), Sx.below_of lR lE G8 S8 h8 hz⟩)
end
end Ls
end
section
set_option maxRecDepth 100000
set_option maxHeartbeats 4000000
namespace Ls
open PySem PySem.Spec PyProof.Rows L2
open Sx (cell)
section
variable {P : Program} {w : World} {K : PySem.W.Frag} {mg : Str → Option Value} {base : Heap} {C : Addr}
/-- what parted tells stands at D -/
def ToldP (K : PySem.W.Frag) (H : Hp) (D : Addr) (R : List (List Int)) (size : Nat) : Prop :=
  (∃ D1 y, H D = some (.tup [strV "below", .ref D1]) ∧ SqT K H D1 (y.map V.int) ∧ Sx.Below R [] size y) ∨
  (∃ D1 x z, H D = some (.tup [strV "cancel", .ref D1]) ∧ SqT K H D1 (x.map V.int) ∧ Sx.Cancel R [] size x z)
def spParted (K : PySem.W.Frag) : Sp := fun vs H Q _ => ∃ (a : Addr) (R : List (List Int)) (size : Nat), vs = [.ref a] ∧ (∀ i, i < R.length → (Sx.row R i).length = size) ∧ size ≤ 20 ∧ R.length ≤ 100 ∧
  ((R = [] ∧ SqL K H a [] ∧ ∀ D D1 H', Same H H' → H' D = some (.tup [strV "below", .ref D1]) → SqT K H' D1 [] → Q (.ref D) H') ∨
   (R ≠ [] ∧ RowsP K H a R ∧ (∀ i k, (cell R i k).natAbs < 2 ^ 100) ∧ ∀ D H', Same H H' → ToldP K H' D R size → Q (.ref D) H'))
theorem ok_parted {f : Addr} {fd : FuncData} (F : Fun K "parted" "parted" s_parted f fd) (D_parted_beside : Df P w K mg base 5 "parted_beside" ["rows", "even"] (spBeside K)) : FnOk P w K mg base CX0 6 f fd ["rows"] (spParted K) := by
  refine F.ok sc_parted (fun vs H Q E h => ?_) (fun cdv A outer s H vs Q E hr h => ?_)
  · obtain ⟨a, R, size, rfl, _⟩ := h
    rfl
  · obtain ⟨a, R, size, rfl, lR, hs, hn, h⟩ := h
    refine ⟨_, (pss_cons (ps_set (i := 1) sc_parted.nd rfl (Or.inl rfl) (pe_df D_parted_beside (hr.mono (by decide)) (by rfl) (pa_cons (pv 0) (pa_cons (pe_lst pa_nil) pa_nil))))
      (pss_one (ps_ret (pe_slice (kslA K) (pv 1) po_none (po_some pe_int))))), ?_⟩
    refine ⟨_, rfl, Nat.zero_le _, fun e ne => ?_⟩
    have se := same_new (o := .lst []) ne
    have eE : RowsQ K (upd H e (.lst [])) e [] := ⟨[], .inl (.inl upd_same), rfl, fun i b row q _ => by simp at q⟩
    have cE : ∀ i k, (cell [] i k).natAbs < 2 ^ 100 := fun i k => by
      unfold Sx.cell
      simp
    rcases h with ⟨rfl, hA, k⟩ | ⟨hne, hR, bR, k⟩
    · refine ⟨a, e, [], [], size, rfl, eE.p, fun i hi => by simp at hi, fun i hi => by simp at hi, hs, by simp, .inl ⟨rfl, se.seq hA, eE, fun D D1 H' s' eD e1 => ?_⟩⟩
      refine ⟨_, rfl, 2, rfl, D, [strV "below", .ref D1], rfl, .inl (.inl eD), fun _ => ?_, fun n => ?_⟩
      · exact k D D1 H' (se.trans s') eD e1
      · exact absurd ⟨rfl, (show HT.sIx 2 2 (some 2) = 2 by decide)⟩ n
    · refine ⟨a, e, R, [], size, rfl, eE.p, lR, fun i hi => by simp at hi, hs, by simp; omega, .inr ⟨hne, hR.mono se, bR, cE, fun D H' s' t => ?_⟩⟩
      rcases t with ⟨D1, y, eD, e1, hb⟩ | ⟨D1, D2, x, z, eD, e1, e2, hc⟩
      · refine ⟨_, rfl, 2, rfl, D, [strV "below", .ref D1], rfl, .inl (.inl eD), fun _ => ?_, fun n => ?_⟩
        · exact k D H' (se.trans s') (.inl ⟨D1, y, eD, e1, hb⟩)
        · exact absurd ⟨rfl, (show HT.sIx 2 2 (some 2) = 2 by decide)⟩ n
      · refine ⟨_, rfl, 2, rfl, D, [strV "cancel", .ref D1, .ref D2], rfl, .inl (.inl eD), fun n => ?_, fun _ q nq => ?_⟩
        · exact absurd n (show ¬ (HT.sIx 3 0 none = 0 ∧ HT.sIx 3 3 (some 2) = 3) by decide)
        · have sq := same_new (o := .tup (cutV [strV "cancel", .ref D1, .ref D2] none (some 2))) nq
          exact k q _ ((se.trans s').trans sq) (.inr ⟨D1, x, z, upd_same, Same.sqt sq e1, hc⟩)
end
end Ls
end
section
set_option maxRecDepth 100000
set_option maxHeartbeats 4000000
namespace Ls
open PySem PySem.Spec PyProof.Rows L2
def tapeD (l c : Addr) (r n : Int) : List (Key × V) := [(.inr "large", .ref l), (.inr "rest", .int r), (.inr "cells", .ref c), (.inr "turn", .int n)]
theorem tv_large {l c : Addr} {r n : Int} : valV (tapeD l c r n) (.inr "large") = some (.ref l) := by rfl
theorem tv_rest {l c : Addr} {r n : Int} : valV (tapeD l c r n) (.inr "rest") = some (.int r) := by rfl
theorem tv_cells {l c : Addr} {r n : Int} : valV (tapeD l c r n) (.inr "cells") = some (.ref c) := by rfl
theorem tv_turn {l c : Addr} {r n : Int} : valV (tapeD l c r n) (.inr "turn") = some (.int n) := by rfl
theorem tp_rest {l c : Addr} {r n m : Int} : putK (tapeD l c r n) (.inr "rest") (.int m) = tapeD l c m n := by rfl
theorem tp_turn {l c : Addr} {r n m : Int} : putK (tapeD l c r n) (.inr "turn") (.int m) = tapeD l c r m := by rfl
/-- the tape stands at t -/
def TapeAt (t l c : Addr) (H : Hp) : Prop := ∃ (r n : Int) (ls cs : List Int), H t = some (.dK (tapeD l c r n)) ∧ H l = some (.lst (ls.map V.int)) ∧ H c = some (.lst (cs.map V.int)) ∧ l ≠ c
def tp (t l c : Addr) : Hid := ⟨[t, l, c], TapeAt t l c, fun H H' e ⟨r, n, ls, cs, e1, e2, e3, e4⟩ => ⟨r, n, ls, cs, (e t (by simp)).trans e1, (e l (by simp)).trans e2, (e c (by simp)).trans e3, e4⟩, fun H ⟨r, n, ls, cs, e1, e2, e3, e4⟩ a ha => by
  have : a = t ∨ a = l ∨ a = c := by simpa using ha
  rcases this with q | q | q
  · rw [q, e1]; simp
  · rw [q, e2]; simp
  · rw [q, e3]; simp⟩
theorem cut_upd_in {T : List Addr} {H : Hp} {a : Addr} {o : HO} (h : a ∈ T) : cut T (upd H a o) = cut T H := by
  funext b
  by_cases q : b ∈ T
  · rw [cut_in q, cut_in q]
  · rw [cut_ne q, cut_ne q, upd_ne (fun z => q (by rw [z]; exact h))]
theorem hu1 {A : Around} (h : A.units + 64 < cLine) : A.units + 1 < cLine := by omega
theorem TapeAt.put {t l c : Addr} {H : Hp} {r n : Int} {ls cs : List Int} (e1 : H t = some (.dK (tapeD l c r n))) (e2 : H l = some (.lst (ls.map V.int))) (e3 : H c = some (.lst (cs.map V.int))) (e4 : l ≠ c) (r' n' : Int) :
    Le (tp t l c) H (upd H t (.dK (tapeD l c r' n'))) := by
  refine ⟨?_, ⟨r', n', ls, cs, upd_same, ?_, ?_, e4⟩⟩
  · rw [cut_upd_in (show t ∈ (tp t l c).T by simp [tp])]; exact Same.refl _
  · rw [upd_ne (fun z => by rw [z, e1] at e2; cases e2)]; exact e2
  · rw [upd_ne (fun z => by rw [z, e1] at e3; cases e3)]; exact e3
section
variable {P : Program} {w : World} {K : PySem.W.Frag} {mg : Str → Option Value} {base : Heap} {C : Addr}
def spBlend : Sp := fun vs H Q _ => ∃ (t l c : Addr), vs = [.ref t] ∧ TapeAt t l c H ∧ ∀ v H', Le (tp t l c) H H' → Q (.int v) H'
theorem ok_blend {f : Addr} {fd : FuncData} (F : Fun K "_law_blend" "_law_blend" s_law_blend f fd) (T : Bi mg) : FnOk P w K mg base CX0 1 f fd ["tape"] spBlend := by
  refine F.ok sc_law_blend (fun vs H Q E h => ?_) (fun cdv A outer s H vs Q E hr h => ?_)
  · obtain ⟨t, l, c, rfl, _⟩ := h
    rfl
  · obtain ⟨t, l, c, rfl, ⟨r, n, ls, cs, e1, e2, e3, e4⟩, k⟩ := h
    refine ⟨_, (pss_cons (ps_asg (pe_op op_add (pe_dget (hu1 hr.units) (pv 0) pe_str (fun _ _ => rfl)) pe_int) (pg_sub (pv 0) pe_str (set_dict (hu1 hr.units)) (fun _ => rfl)))
      (pss_cons (ps_par (i := 2) (j := 3) (by rfl) sc_law_blend.nd rfl rfl (by decide) rfl rfl (pa_cons (pe_callTy call_int1 (by rfl) T.b_int (by decide +kernel) (pa_cons (pe_dget (hu1 hr.units) (pv 0) pe_str (fun _ _ => rfl)) pa_nil)) (pa_cons pe_int pa_nil)) (by rfl))
      (pss_cons (ps_for PassesOwn.never rfl (kfor_list K (pe_lst (pa_cons pe_int (pa_cons pe_int (pa_cons pe_int pa_nil))))) (pg_name (i := 1) sc_law_blend.nd rfl (Or.inl rfl)) (pss_cons (ps_set (i := 4) sc_law_blend.nd rfl (Or.inl rfl) (pe_op op_modN (pe_op op_add (pe_op op_mul (pv 2) pe_int) (pe_op op_fdivW (pv 1) pe_int)) (pv 1)))
      (pss_cons (ps_for PassesOwn.never rfl (kfor_list K (pe_dget (hu1 hr.units) (pv 0) pe_str (fun _ _ => rfl))) (pg_name (i := 5) sc_law_blend.nd rfl (Or.inl rfl)) (pss_one (ps_set (i := 4) sc_law_blend.nd rfl (Or.inl rfl) (pe_op op_modN (pe_op op_add (pe_op op_mul (pv 4) pe_int) (pe_callTy call_int1 (by rfl) T.b_int (by decide +kernel) (pa_cons (pv 5) pa_nil))) (pv 1)))))
      (pss_one (ps_set (i := 3) sc_law_blend.nd rfl (Or.inl rfl) (pe_op op_add (pe_op op_mul (pv 3) pe_int) (pe_op op_modN (pe_op op_pow (pv 4) pe_int) (pv 1))))))))
      (pss_one (ps_ret (pv 3)))))), ?_⟩
    have gt : ∀ {H : Hp} {r n : Int}, H t = some (.dK (tapeD l c r n)) → DGet H t (.str "turn") (some (.int n)) := fun e => DGet.k (k := .inr "turn") e
    have gc : ∀ {H : Hp} {r n : Int}, H t = some (.dK (tapeD l c r n)) → DGet H t (.str "cells") (some (.ref c)) := fun e => DGet.k (k := .inr "cells") e
    refine ⟨.ref t, rfl, t, .int n, rfl, gt e1, _, _, rfl, rfl, .ref t, rfl, t, _, rfl, DPut.k (k := .inr "turn") e1 (by show 4 < sizeLine; decide), ?_⟩
    rw [tp_turn]
    have le1 := TapeAt.put (t := t) e1 e2 e3 e4 r (n + 1)
    have e11 : (upd H t (.dK (tapeD l c r (n + 1)))) t = some (.dK (tapeD l c r (n + 1))) := upd_same
    refine ⟨.ref t, rfl, t, _, rfl, gt e11, .inl ⟨_, rfl, _, _, rfl, ?_⟩⟩
    refine ⟨by show 3 ≤ sizeLine; decide, fun q nq => ⟨q, rfl, ⟨_, .inl (.inl upd_same)⟩, ?_⟩⟩
    let Hq := upd (upd H t (.dK (tapeD l c r (n + 1)))) q (.lst [.int 2147483629, .int 2147483587, .int 2147483579])
    have leq : Le (tp t l c) H Hq := le1.trans (Le.new le1.g nq)
    have ntq : t ≠ q := fun z => by rw [← z, e11] at nq; cases nq
    have et : Hq t = some (.dK (tapeD l c r (n + 1))) := (upd_ne ntq).trans e11
    obtain ⟨r9, n9, ls9, cs9, f1, f2, f3, f4⟩ := id leq.g
    refine for_list (K := K) (a := q) (xs := [.int 2147483629, .int 2147483587, .int 2147483579]) (fun i σ H2 => ∃ v1 v4 v5 fo, σ = [some (.ref t), v1, some (.int (n + 1)), some (.int fo), v4, v5] ∧ H2 = Hq)
      ⟨none, none, none, 0, rfl, rfl⟩ (fun i σ H2 _ ⟨_, _, _, _, _, e⟩ => e ▸ .inl (.inl upd_same)) ?_ ?_
    · rintro i y σ H2 hi ⟨v1, v4, v5, fo, rfl, rfl⟩
      have hy := hi
      have hg : ∃ g : Int, y = .int g ∧ 0 < g ∧ g < 2 ^ 31 := by
        have hm := List.mem_of_getElem? hy
        simp at hm
        rcases hm with z | z | z
        · exact ⟨_, z, by decide, by decide⟩
        · exact ⟨_, z, by decide, by decide⟩
        · exact ⟨_, z, by decide, by decide⟩
      obtain ⟨g, rfl, g0, g1⟩ := hg
      have fm : ∀ a : Int, 0 ≤ a.fmod g ∧ a.fmod g < g := fun a => ⟨Int.fmod_nonneg_of_pos a g0, Int.fmod_lt_of_pos a g0⟩
      refine ⟨_, rfl, _, _, rfl, rfl, .inr ⟨by decide, by decide⟩, _, rfl, _, _, rfl, rfl, wide_div (b := 3) (by decide) (by decide) (by decide) (by decide), _, _, rfl, rfl, _, rfl, _, _, rfl, rfl, by omega, ?_⟩
      refine ⟨.ref t, rfl, t, _, rfl, gc et, c, rfl, ⟨_, .inl (.inl f3)⟩, ?_⟩
      refine for_list (K := K) (a := c) (xs := cs9.map V.int) (fun i σ H2 => ∃ v5 b, σ = [some (.ref t), some (.int g), some (.int (n + 1)), some (.int fo), some (.int b), v5] ∧ 0 ≤ b ∧ b < g ∧ H2 = Hq)
        ⟨_, _, rfl, (fm _).1, (fm _).2, rfl⟩ (fun i σ H2 _ ⟨_, _, _, _, _, e⟩ => e ▸ .inl (.inl f3)) ?_ ?_
      · rintro i y σ H2 hi ⟨v5, b, rfl, b0, b1, rfl⟩
        have hy := hi
        obtain ⟨z, hz, rfl⟩ := ints_at hy
        refine ⟨_, rfl, _, _, rfl, rfl, .inr ⟨by decide, by decide⟩, _, rfl, .inl ⟨_, rfl, _, _, rfl, rfl, _, rfl, _, _, rfl, rfl, by omega, ?_⟩⟩
        exact ⟨_, _, rfl, (fm _).1, (fm _).2, rfl⟩
      · rintro σ H2 ⟨v5, b, rfl, b0, b1, rfl⟩
        refine ⟨_, rfl, _, _, rfl, rfl, .inr ⟨by decide, by decide⟩, _, rfl, _, _, rfl, rfl, ⟨by decide, by decide, by omega⟩, _, rfl, _, _, rfl, rfl, by omega, _, _, rfl, rfl, ?_⟩
        exact ⟨_, _, _, _, rfl, rfl⟩
    · rintro σ H2 ⟨v1, v4, v5, fo, rfl, rfl⟩
      exact ⟨_, rfl, k _ _ leq⟩
end
end Ls
end
section
set_option maxRecDepth 100000
set_option maxHeartbeats 4000000
namespace Ls
open PySem PySem.Spec PyProof.Rows L2
section
variable {P : Program} {w : World} {K : PySem.W.Frag} {mg : Str → Option Value} {base : Heap} {C : Addr}
def spDraw : Sp := fun vs H Q _ => ∃ (t l c : Addr) (size : Int), vs = [.ref t, .int size] ∧ 0 < size ∧ size < 2 ^ 60 ∧ TapeAt t l c H ∧ ∀ v H', 0 ≤ v → v < size → Le (tp t l c) H H' → Q (.int v) H'
theorem ok_draw {f : Addr} {fd : FuncData} (F : Fun K "_law_draw" "_law_draw" s_law_draw f fd) (T : Bi mg) (D_law_blend : Df P w K mg base 1 "_law_blend" ["tape"] spBlend) : FnOk P w K mg base CX0 2 f fd ["tape", "size"] spDraw := by
  refine F.ok sc_law_draw (fun vs H Q E h => ?_) (fun cdv A outer s H vs Q E hr h => ?_)
  · obtain ⟨t, l, c, size, rfl, _⟩ := h
    rfl
  · obtain ⟨t, l, c, size, rfl, z0, z1, tape, k⟩ := h
    refine ⟨_, (pss_cons (ps_if (pt_cmpR op_eq (pe_dget (hu1 hr.units) (pv 0) pe_str (fun _ _ => rfl)) pe_int (nomark _)) (pss_one (ps_asg (pe_ifExp (pt_cmpR (kneD K hr.units) (pe_dget (hu1 hr.units) (pv 0) pe_str (fun _ _ => rfl)) (pe_lst pa_nil) (nomark _)) (pe_bm PySem.F.plainAttrs_list PySem.F.slot_list_pop PySem.F.type_list_pop mt_popAt (pe_dget (hu1 hr.units) (pv 0) pe_str (fun _ _ => rfl)) (pa_cons pe_int pa_nil)) (pe_df D_law_blend (hr.mono (by decide)) (by rfl) (pa_cons (pv 0) pa_nil))) (pg_sub (pv 0) pe_str (set_dict (hu1 hr.units)) (fun _ => rfl)))) pss_nil)
      (pss_cons (ps_set (i := 2) sc_law_draw.nd rfl (Or.inl rfl) (pe_op op_modN (pe_callTy call_int1 (by rfl) T.b_int (by decide +kernel) (pa_cons (pe_dget (hu1 hr.units) (pv 0) pe_str (fun _ _ => rfl)) pa_nil)) (pv 1)))
      (pss_cons (ps_asg (pe_op op_fdivW (pe_callTy call_int1 (by rfl) T.b_int (by decide +kernel) (pa_cons (pe_dget (hu1 hr.units) (pv 0) pe_str (fun _ _ => rfl)) pa_nil)) (pv 1)) (pg_sub (pv 0) pe_str (set_dict (hu1 hr.units)) (fun _ => rfl)))
      (pss_one (ps_ret (pv 2)))))), ?_⟩
    have gr : ∀ {H : Hp} {r n : Int}, H t = some (.dK (tapeD l c r n)) → DGet H t (.str "rest") (some (.int r)) := fun e => DGet.k (k := .inr "rest") e
    have gl : ∀ {H : Hp} {r n : Int}, H t = some (.dK (tapeD l c r n)) → DGet H t (.str "large") (some (.ref l)) := fun e => DGet.k (k := .inr "large") e
    obtain ⟨r, n, ls, cs, e1, e2, e3, e4⟩ := id tape
    have fm : ∀ a : Int, 0 ≤ a.fmod size ∧ a.fmod size < size := fun a => ⟨Int.fmod_nonneg_of_pos a z0, Int.fmod_lt_of_pos a z0⟩
    refine ⟨.ref t, rfl, t, _, rfl, gr e1, rfl, _, rfl, ?_⟩
    by_cases c0 : r = 0
    · subst c0
      refine iteT ⟨.ref t, rfl, t, _, rfl, gl e1, Nat.zero_le _, fun z nz => ?_⟩
      have lez : Le (tp t l c) H (upd H z (.lst [])) := Le.new tape nz
      have ntz : t ≠ z := ne_of_none e1 nz
      have nlz : l ≠ z := ne_of_none e2 nz
      have ncz : c ≠ z := ne_of_none e3 nz
      have ez1 : (upd H z (.lst [])) t = _ := (upd_ne ntz).trans e1
      have ez2 : (upd H z (.lst [])) l = _ := (upd_ne nlz).trans e2
      have ez3 : (upd H z (.lst [])) c = _ := (upd_ne ncz).trans e3
      refine neD_nil (.inl (.inl ez2)) (.inl (.inl upd_same)) ⟨_, rfl, ?_⟩
      cases ls with
      | nil =>
        refine iteF ⟨.ref t, rfl, t, l, c, rfl, lez.g, fun v H1 l1 => ?_⟩
        obtain ⟨r1, n1, ls1, cs1, f1, f2, f3, f4⟩ := id l1.g
        refine ⟨.ref t, rfl, t, _, rfl, DPut.k (k := .inr "rest") f1 (by show 4 < sizeLine; decide), ?_⟩
        rw [tp_rest]
        have le := (lez.trans l1).trans (TapeAt.put f1 f2 f3 f4 v n1)
        obtain ⟨r2, n2, ls2, cs2, h1, h2, h3, h4⟩ := id le.g
        refine ⟨.ref t, rfl, t, _, rfl, gr h1, .inl ⟨_, rfl, _, rfl, _, _, rfl, rfl, by omega, ?_⟩⟩
        refine ⟨.ref t, rfl, t, _, rfl, gr h1, .inl ⟨_, rfl, _, rfl, _, _, rfl, rfl, wide_div (b := 60) z0 (by omega) (by decide) (by decide), .ref t, rfl, t, _, rfl, DPut.k (k := .inr "rest") h1 (by show 4 < sizeLine; decide), _, rfl, ?_⟩⟩
        rw [tp_rest]
        exact k _ _ (fm _).1 (fm _).2 (le.trans (TapeAt.put h1 h2 h3 h4 _ _))
      | cons y0 ys =>
        refine iteT ⟨.ref t, rfl, t, _, rfl, gl ez1, .inl ⟨rfl, _, .inl (.inl ez2)⟩, l, _, 0, 0, .int y0, rfl, rfl, ez2, by decide, by decide, by simp [seqIndex?], rfl, ?_⟩
        have lp : Le (tp t l c) (upd H z (.lst [])) (upd (upd H z (.lst [])) l (.lst (ys.map V.int))) := by
          refine ⟨?_, ⟨_, _, ys, cs, (upd_ne (fun z => by rw [z, e2] at e1; cases e1)).trans ez1, upd_same, (upd_ne (Ne.symm e4)).trans ez3, e4⟩⟩
          rw [cut_upd_in (show l ∈ (tp t l c).T by simp [tp])]; exact Same.refl _
        obtain ⟨r1, n1, ls1, cs1, f1, f2, f3, f4⟩ := id lp.g
        refine ⟨.ref t, rfl, t, _, rfl, DPut.k (k := .inr "rest") f1 (by show 4 < sizeLine; decide), ?_⟩
        rw [tp_rest]
        have le := (lez.trans lp).trans (TapeAt.put f1 f2 f3 f4 y0 n1)
        obtain ⟨r2, n2, ls2, cs2, h1, h2, h3, h4⟩ := id le.g
        refine ⟨.ref t, rfl, t, _, rfl, gr h1, .inl ⟨_, rfl, _, rfl, _, _, rfl, rfl, by omega, ?_⟩⟩
        refine ⟨.ref t, rfl, t, _, rfl, gr h1, .inl ⟨_, rfl, _, rfl, _, _, rfl, rfl, wide_div (b := 60) z0 (by omega) (by decide) (by decide), .ref t, rfl, t, _, rfl, DPut.k (k := .inr "rest") h1 (by show 4 < sizeLine; decide), _, rfl, ?_⟩⟩
        rw [tp_rest]
        exact k _ _ (fm _).1 (fm _).2 (le.trans (TapeAt.put h1 h2 h3 h4 _ _))
    · rw [show decide (V.int r = V.int 0) = false from decide_eq_false fun z => c0 (V.int.inj z)]
      refine iteF ?_
      have le : Le (tp t l c) H H := Le.refl tape
      have h1 := e1
      have h2 := e2
      have h3 := e3
      have h4 := e4
      refine ⟨.ref t, rfl, t, _, rfl, gr h1, .inl ⟨_, rfl, _, rfl, _, _, rfl, rfl, by omega, ?_⟩⟩
      refine ⟨.ref t, rfl, t, _, rfl, gr h1, .inl ⟨_, rfl, _, rfl, _, _, rfl, rfl, wide_div (b := 60) z0 (by omega) (by decide) (by decide), .ref t, rfl, t, _, rfl, DPut.k (k := .inr "rest") h1 (by show 4 < sizeLine; decide), _, rfl, ?_⟩⟩
      rw [tp_rest]
      exact k _ _ (fm _).1 (fm _).2 (le.trans (TapeAt.put h1 h2 h3 h4 _ _))
def spPick (K : PySem.W.Frag) : Sp := fun vs H Q _ => ∃ (t l c a : Addr) (xs : List V), vs = [.ref t, .ref a] ∧ SqL K (cut (tp t l c).T H) a xs ∧ xs ≠ [] ∧ xs.length < 1000 ∧ TapeAt t l c H ∧ ∀ (i : Nat) (v : V) H', xs[i]? = some v → Le (tp t l c) H H' → Q v H'
theorem ok_pick {f : Addr} {fd : FuncData} (F : Fun K "_law_pick" "_law_pick" s_law_pick f fd) (T : Bi mg) (D_law_draw : Df P w K mg base 2 "_law_draw" ["tape", "size"] spDraw) : FnOk P w K mg base CX0 3 f fd ["tape", "several"] (spPick K) := by
  refine F.ok sc_law_pick (fun vs H Q E h => ?_) (fun cdv A outer s H vs Q E hr h => ?_)
  · obtain ⟨t, l, c, a, xs, rfl, _⟩ := h
    rfl
  · obtain ⟨t, l, c, a, xs, rfl, hS, hne, hx, tape, k⟩ := h
    refine ⟨_, (pss_one (ps_ret (pe_ix (kixL K) (pv 1) (pe_df D_law_draw (hr.mono (by decide)) (by rfl) (pa_cons (pv 0) (pa_cons (pe_callB (klen K) (by rfl) T.b_len (by decide +kernel) (pa_cons (pv 1) pa_nil)) pa_nil))) (fun _ _ => rfl)))), ?_⟩
    have hl : 0 < xs.length := by
      cases xs with
      | nil => exact absurd rfl hne
      | cons _ _ => simp
    refine ⟨_, rfl, .ref t, rfl, .ref a, rfl, a, xs, rfl, .inl (sql hS), t, l, c, _, rfl, by omega, by omega, tape, fun v H' v0 v1 le => ?_⟩
    obtain ⟨j, rfl⟩ : ∃ j : Nat, v = (j : Int) := ⟨v.toNat, by omega⟩
    have hj : j < xs.length := by omega
    have e : xs[j]? = some xs[j] := List.getElem?_eq_getElem hj
    exact ⟨a, xs, _, _, rfl, rfl, sql (le.s.seq hS), atI_nat e, k j _ H' e le⟩
/-- these places hold these rows, each of them one of R -/
def PairsT (K : PySem.W.Frag) (H : Hp) (ms : List (Addr × List Int)) (R : List (List Int)) : Prop := ∀ p ∈ ms, SqT K H p.1 (p.2.map V.int) ∧ p.2 ∈ R
def addrs (ms : List (Addr × List Int)) : List Addr := ms.map (·.1)
theorem PairsT.mono {H H' : Hp} {ms : List (Addr × List Int)} {R : List (List Int)} (s : Same H H') (p : PairsT K H ms R) : PairsT K H' ms R := fun q hq => ⟨Same.sqt s (p q hq).1, (p q hq).2⟩
theorem PairsT.each {H : Hp} {ms : List (Addr × List Int)} {R : List (List Int)} (p : PairsT K H ms R) (i : Nat) (b : Addr) (row : List Int) (e1 : (addrs ms)[i]? = some b) (e2 : (ms.map (·.2))[i]? = some row) : SqT K H b (row.map V.int) := by
  unfold addrs at e1
  rw [List.getElem?_map] at e1 e2
  cases q : ms[i]? with
  | none => rw [q] at e1; cases e1
  | some x =>
    rw [q] at e1 e2
    have h1 := Option.some.inj e1
    have h2 := Option.some.inj e2
    rw [← h1, ← h2]
    exact (p x (List.mem_of_getElem? q)).1
theorem PairsT.rows {H : Hp} {a : Addr} {ms : List (Addr × List Int)} {R : List (List Int)} (p : PairsT K H ms R) (e : SqL K H a ((addrs ms).map V.ref)) : RowsQ K H a (ms.map (·.2)) := ⟨addrs ms, e, by unfold addrs; simp, p.each⟩
theorem pairs_of {H : Hp} {a : Addr} {R : List (List Int)} (r : RowsQ K H a R) : ∃ ms, SqL K H a ((addrs ms).map V.ref) ∧ PairsT K H ms R ∧ ms.map (·.2) = R := by
  obtain ⟨as, h1, h2, h3⟩ := r
  have e1 : addrs (as.zip R) = as := by unfold addrs; rw [List.map_fst_zip (by omega)]
  refine ⟨as.zip R, by rw [e1]; exact h1, fun p hp => ?_, by rw [List.map_snd_zip (by omega)]⟩
  obtain ⟨i, hi, e⟩ := List.getElem_of_mem hp
  rw [List.length_zip] at hi
  have ha : i < as.length := by omega
  have hb : i < R.length := by omega
  rw [List.getElem_zip] at e
  rw [← e]
  exact ⟨h3 i _ _ (List.getElem?_eq_getElem ha) (List.getElem?_eq_getElem hb), List.getElem_mem hb⟩
def spShuffled (K : PySem.W.Frag) : Sp := fun vs H Q _ => ∃ (t l c a : Addr) (R : List (List Int)), vs = [.ref t, .ref a] ∧ RowsQ K (cut (tp t l c).T H) a R ∧ R.length < 1000 ∧ TapeAt t l c H ∧
  ∀ (D : Addr) (R' : List (List Int)) H', H D = none → R'.length = R.length → (∀ r ∈ R', r ∈ R) → RowsQ K (cut (tp t l c).T H') D R' → Le (tp t l c) H H' → Q (.ref D) H'
theorem ok_shuffled {f : Addr} {fd : FuncData} (F : Fun K "_law_shuffled" "_law_shuffled" s_law_shuffled f fd) (T : Bi mg) (D_law_draw : Df P w K mg base 2 "_law_draw" ["tape", "size"] spDraw) : FnOk P w K mg base CX0 3 f fd ["tape", "several"] (spShuffled K) := by
  refine F.ok sc_law_shuffled (fun vs H Q E h => ?_) (fun cdv A outer s H vs Q E hr h => ?_)
  · obtain ⟨t, l, c, a, xs, rfl, _⟩ := h
    rfl
  · obtain ⟨t, l, c, a, R, rfl, hR, hl, tape, k⟩ := h
    refine ⟨_, (pss_cons (ps_par (i := 2) (j := 3) (by rfl) sc_law_shuffled.nd rfl rfl (by decide) rfl rfl (pa_cons (pe_callTy (klist K) (by rfl) T.b_list (by decide +kernel) (pa_cons (pv 1) pa_nil)) (pa_cons (pe_lst pa_nil) pa_nil)) (by rfl))
      (pss_cons (ps_while PassesOwn.never (pt_cmpR (kneD K hr.units) (pv 2) (pe_lst pa_nil) (nomark _)) (pss_one (ps_expr (pe_bm PySem.F.plainAttrs_list PySem.F.slot_list_append PySem.F.type_list_append mt_append (pv 3) (pa_cons (pe_bm PySem.F.plainAttrs_list PySem.F.slot_list_pop PySem.F.type_list_pop mt_popAt (pv 2) (pa_cons (pe_df D_law_draw (hr.mono (by decide)) (by rfl) (pa_cons (pv 0) (pa_cons (pe_callB (klen K) (by rfl) T.b_len (by decide +kernel) (pa_cons (pv 2) pa_nil)) pa_nil))) pa_nil)) pa_nil)))))
      (pss_one (ps_ret (pv 3))))), ?_⟩
    obtain ⟨ms0, hS, pm0, em0⟩ := pairs_of hR
    have lm0 : ms0.length = R.length := by rw [← em0, List.length_map]
    refine ⟨.ref a, rfl, a, _, rfl, .inl (sql hS), fun M nM => ⟨Nat.zero_le _, fun Fo nF => ⟨_, _, rfl, ?_⟩⟩⟩
    have le1 : Le (tp t l c) H (upd H M (.lst ((addrs ms0).map V.ref))) := Le.new tape nM
    have le2 : Le (tp t l c) H (upd (upd H M (.lst ((addrs ms0).map V.ref))) Fo (.lst [])) := le1.trans (Le.new le1.g nF)
    have nMF : M ≠ Fo := fun z => by rw [← z, upd_same] at nF; cases nF
    have nF0 : H Fo = none := le1.free tape nF
    have nMT := Hid.nin (h := tp t l c) tape nM
    have nFT := Hid.nin (h := tp t l c) tape nF0
    refine ⟨fun μ σ H2 => ∃ (ms fs : List (Addr × List Int)), σ = [some (.ref t), some (.ref a), some (.ref M), some (.ref Fo)] ∧ Le (tp t l c) H H2 ∧ H2 M = some (.lst ((addrs ms).map V.ref)) ∧ H2 Fo = some (.lst ((addrs fs).map V.ref)) ∧
      PairsT K (cut (tp t l c).T H) ms R ∧ PairsT K (cut (tp t l c).T H) fs R ∧ μ = ms.length ∧ ms.length + fs.length = R.length, ⟨ms0.length, ms0, [], rfl, le2, (upd_ne nMF).trans upd_same, upd_same, pm0, fun p hp => by simp at hp, rfl, by simp [lm0]⟩, ?_⟩
    rintro μ σ H2 ⟨ms, fs, rfl, le, eM, eF, pm, pf, rfl, lf⟩
    refine ⟨_, rfl, Nat.zero_le _, fun z nz => ?_⟩
    have lez : Le (tp t l c) H (upd H2 z (.lst [])) := le.trans (Le.new le.g nz)
    have nMz : M ≠ z := ne_of_none eM nz
    have nFz : Fo ≠ z := ne_of_none eF nz
    have eMz : (upd H2 z (.lst [])) M = _ := (upd_ne nMz).trans eM
    have eFz : (upd H2 z (.lst [])) Fo = _ := (upd_ne nFz).trans eF
    refine neD_rows (as := addrs ms) (rows := ms.map (·.2)) (.inl (.inl eMz)) (by unfold addrs; simp) (fun i b row q1 q2 => sqt ((pm.mono lez.s).each i b row q1 q2)) (.inl (.inl upd_same)) ⟨_, rfl, ?_⟩
    cases ms with
    | nil =>
      refine iteF ⟨_, rfl, k Fo (fs.map (·.2)) _ nF0 (by rw [List.length_map]; simpa using lf) (fun r hr => ?_) ?_ lez⟩
      · obtain ⟨p, hp, rfl⟩ := List.mem_map.mp hr
        exact (pf p hp).2
      · exact (pf.mono lez.s).rows (.inl (.inl (by rw [cut_ne nFT]; exact eFz)))
    | cons m0 mr =>
      refine iteT ⟨fun σ2 H3 => ∃ (μ' : Nat), μ' < (m0 :: mr).length ∧ ∃ (ms fs : List (Addr × List Int)), σ2 = [some (.ref t), some (.ref a), some (.ref M), some (.ref Fo)] ∧ Le (tp t l c) H H3 ∧ H3 M = some (.lst ((addrs ms).map V.ref)) ∧ H3 Fo = some (.lst ((addrs fs).map V.ref)) ∧
        PairsT K (cut (tp t l c).T H) ms R ∧ PairsT K (cut (tp t l c).T H) fs R ∧ μ' = ms.length ∧ ms.length + fs.length = R.length, fun σ2 H3 hN => hN, ?_⟩
      refine ⟨_, rfl, .inl ⟨rfl, _, .inl (.inl eFz)⟩, .ref M, rfl, .inl ⟨rfl, _, .inl (.inl eMz)⟩, .ref t, rfl, .ref M, rfl, M, _, rfl, .inl (.inl (.inl eMz)), t, l, c, _, rfl, by simp [addrs], by simp [addrs]; simp at lf; omega, lez.g, fun v H3 v0 v1 le3 => ?_⟩
      have lm : ((addrs (m0 :: mr)).map V.ref).length = (m0 :: mr).length := by unfold addrs; simp
      rw [lm] at v1
      obtain ⟨j, rfl⟩ : ∃ j : Nat, v = (j : Int) := ⟨v.toNat, by omega⟩
      have hj : j < (m0 :: mr).length := by omega
      have eM3 : H3 M = some (.lst ((addrs (m0 :: mr)).map V.ref)) := cut_le (le3.s M _ (by rw [cut_ne nMT]; exact eMz))
      have eF3 : H3 Fo = some (.lst ((addrs fs).map V.ref)) := cut_le (le3.s Fo _ (by rw [cut_ne nFT]; exact eFz))
      have le4 := lez.trans le3
      refine ⟨M, _, (j : Int), j, .ref (m0 :: mr)[j].1, rfl, rfl, eM3, by omega, by simp at lf hj; omega, ?_, ?_, ?_⟩
      · rw [lm]
        have e0 : ¬ ((j : Int) < 0) := by omega
        have e1 : (j : Int) < ((m0 :: mr).length : Int) := by omega
        unfold seqIndex?
        simp only [e0, if_false]
        rw [if_pos (by simp only [Bool.and_eq_true, decide_eq_true_eq]; exact ⟨by omega, e1⟩), Int.toNat_natCast]
      · unfold addrs
        rw [List.getElem?_map, List.getElem?_map, List.getElem?_eq_getElem hj]; rfl
      · refine ⟨Fo, _, _, rfl, rfl, (upd_ne (Ne.symm nMF)).trans eF3, by simp [addrs]; simp at lf; rw [sizeLine_eq]; omega, ?_⟩
        refine ⟨(m0 :: mr).length - 1, by simp, (m0 :: mr).eraseIdx j, fs ++ [(m0 :: mr)[j]], rfl, (le4.mut tape nM).mut tape nF0, ?_, ?_, fun p hp => pm p (List.mem_of_mem_eraseIdx hp), fun p hp => ?_, ?_, ?_⟩
        · rw [upd_ne nMF, upd_same]
          unfold addrs
          rw [List.eraseIdx_eq_take_drop_succ, List.eraseIdx_eq_take_drop_succ, List.map_append, List.map_append, List.map_take, List.map_take, List.map_drop, List.map_drop]
        · rw [upd_same]
          unfold addrs
          simp
        · rcases List.mem_append.mp hp with q | q
          · exact pf p q
          · rw [List.mem_singleton.mp q]
            exact pm _ (List.getElem_mem hj)
        · rw [List.length_eraseIdx_of_lt hj]
        · rw [List.length_eraseIdx_of_lt hj, List.length_append]
          simp at lf ⊢
          omega
end
end Ls
end
section
set_option maxRecDepth 100000
set_option maxHeartbeats 2000000
namespace Ls
open PySem PySem.Spec PyProof.Rows L2
/-! ### zip of a list or a tuple with a list or a tuple -/
def SqK (K : PySem.W.Frag) (k : Bool) (H : Hp) (a : Addr) (xs : List V) : Prop := if k = true then SqT K H a xs else SqL K H a xs
theorem SqK.t {K : PySem.W.Frag} {H : Hp} {a : Addr} {xs : List V} (h : SqT K H a xs) : SqK K true H a xs := h
theorem SqK.l {K : PySem.W.Frag} {H : Hp} {a : Addr} {xs : List V} (h : SqL K H a xs) : SqK K false H a xs := by unfold SqK; rw [if_neg (by decide)]; exact h
theorem SqK.mono {K : PySem.W.Frag} {k : Bool} {H H' : Hp} {a : Addr} {xs : List V} (s : Same H H') (h : SqK K k H a xs) : SqK K k H' a xs := by
  unfold SqK at *
  split
  · rename_i c; rw [if_pos c] at h; exact Same.sqt s h
  · rename_i c; rw [if_neg c] at h; exact s.seq h
def ItK (k : Bool) (h : Heap) (it a : Addr) (i : Nat) : Prop := if k = true then h.IsTupleIter it a i else h.IsListIter it a i
def SeK (k : Bool) (h : Heap) (a : Addr) (its : Array Value) : Prop := if k = true then h.IsTuple a its else h.IsList a its
theorem ItK.at {k : Bool} {h h' : Heap} {it a : Addr} {i : Nat} (x : ItK k h it a i) (e : ∀ o, h.get? it = some o → h'.get? it = some o) : ItK k h' it a i := by
  unfold ItK at *
  split
  · rename_i c; rw [if_pos c] at x; exact x.at e
  · rename_i c; rw [if_neg c] at x; exact x.at e
theorem ItK.live {k : Bool} {h : Heap} {it a : Addr} {i : Nat} (x : ItK k h it a i) : ∃ o, h.get? it = some o ∧ ∀ v, o.data ≠ .cell v := by
  unfold ItK at x
  split at x
  · obtain ⟨o, e, _, d⟩ := x; exact ⟨o, e, fun v q => by rw [d] at q; cases q⟩
  · obtain ⟨o, e, _, d⟩ := x; exact ⟨o, e, fun v q => by rw [d] at q; cases q⟩
theorem drawsK {prog : Program} {w : World} {A : Around} (hh : A.handled = none) (k : Bool) (it l : Addr) (hne : l ≠ it) (items : Array Value) :
    Draws prog w A it [it, l] items.size (fun i v => items[i]? = some v) (fun i h => ItK k h it l i ∧ SeK k h l items) := by
  cases k with
  | true => exact Draws.tuple hh it l hne items
  | false => exact Draws.list hh it l hne items
theorem beginsK (k : Bool) (l : Addr) (items : Array Value) : ∃ o, Begins (.ref l) o (fun h => SeK k h l items) ∧ ∀ (h : Heap) (it : Addr), h.get? it = some o → ItK k h it l 0 := by
  cases k with
  | true => exact ⟨_, begins_tuple l items, fun h it e => ⟨_, e, rfl, rfl⟩⟩
  | false => exact ⟨_, begins_list l items, fun h it e => ⟨_, e, rfl, rfl⟩⟩
section
variable {X : Cx} {pins : List (Addr × Obj)} {σ : L2.St} {H : Hp} {s : Shared}
theorem seqK (I : Inv X pins σ H s) {k : Bool} {a : Addr} {xs : List V} (h : SqK X.K k H a xs) : ∃ its : List Value, Vals xs its ∧ SeK k s.heap a its.toArray ∧ a < s.heap.objs.size := by
  cases k with
  | true =>
    obtain ⟨its, r, p, _⟩ := I.tuple (show SqT X.K H a xs from h)
    obtain ⟨o, ho, _⟩ := id p
    exact ⟨its, r, p, Heap.lt_size ho⟩
  | false =>
    unfold SqK at h; rw [if_neg (by decide)] at h
    obtain ⟨its, r, p, _⟩ := I.list h
    exact ⟨its, r, p.isList, p.lt⟩
theorem seqK_inj (I : Inv X pins σ H s) {k : Bool} {a : Addr} {xs ys : List V} (h : SqK X.K k H a xs) (g : SqK X.K k H a ys) : xs = ys := by
  cases k with
  | true => exact I.tuple_inj (show SqT X.K H a xs from h) g
  | false =>
    unfold SqK at h g; rw [if_neg (by decide)] at h g
    exact I.list_inj h g
end
def ItM (K : PySem.W.Frag) (ka kb : Bool) (a b : Addr) : It :=
  ⟨fun i H => ∃ (xs ys : List V) (x y : V), SqK K ka H a xs ∧ SqK K kb H b ys ∧ xs[i]? = some x ∧ ys[i]? = some y,
    fun i H v H' => ∃ T x y, v = .ref T ∧ H T = none ∧ H' = upd H T (.tup [x, y]) ∧ (∀ xs, SqK K ka H a xs → xs[i]? = some x) ∧ ∀ ys, SqK K kb H b ys → ys[i]? = some y,
    fun i H => ∃ xs ys : List V, SqK K ka H a xs ∧ SqK K kb H b ys ∧ i ≤ xs.length ∧ i ≤ ys.length ∧ (xs.length = i ∨ ys.length = i)⟩
theorem turn_zipM {P : Program} {w : World} {K : PySem.W.Frag} {elts : List Expr} {kk : Nat} {tpos : Pos} {ka kb : Bool} {a b z TI TO i1 i2 : Addr} (S : ZipSep2 z TI TO i1 i2 [i1, a] [i2, b]) (na : a ≠ i1) (nb : b ≠ i2) :
    Turn P w K (.Tuple elts kk tpos) (ItM K ka kb a b) [z, TI, TO, i1, i2] z (fun i h => IsZip h z TI TO .none ∧ IsPair h TI (.ref i1) (.ref i2) ∧ (∃ x y, IsPair h TO x y) ∧ ItK ka h i1 a i ∧ ItK kb h i2 b i) where
  mem := by simp
  obj := fun i h st c hc => by
    obtain ⟨hz, hTI, ⟨x, y, hTO⟩, h1, h2⟩ := st
    have e' : c = z ∨ c = TI ∨ c = TO ∨ c = i1 ∨ c = i2 := by simpa using hc
    rcases e' with q | q | q | q | q
    · rw [q]; exact ⟨_, hz, fun v q => nomatch q⟩
    · rw [q]; exact ⟨_, hTI, fun v q => nomatch q⟩
    · rw [q]; exact ⟨_, hTO, fun v q => nomatch q⟩
    · rw [q]; exact h1.live
    · rw [q]; exact h2.live
  keep := fun i h h' st k => by
    obtain ⟨hz, hTI, ⟨x, y, hTO⟩, h1, h2⟩ := st
    exact ⟨k z (by simp) _ hz, k TI (by simp) _ hTI, ⟨x, y, k TO (by simp) _ hTO⟩, h1.at fun o q => k i1 (by simp) o q, h2.at fun o q => k i2 (by simp) o q⟩
  item := by
    intro X hP hw hK hc i pins s σ H E I hf st hg
    subst hP hw hK
    obtain ⟨hz, hTI, ⟨x0, y0, hTO⟩, h1, h2⟩ := st
    obtain ⟨xs, ys, x, y, hqx, hqy, hx, hy⟩ := hg
    obtain ⟨its, rv, p, _⟩ := seqK I hqx
    obtain ⟨its2, rv2, p2, _⟩ := seqK I hqy
    obtain ⟨u, hu, ru⟩ := rv.get hx
    obtain ⟨u2, hu2, ru2⟩ := rv2.get hy
    have hzl : z < s.heap.objs.size := Heap.lt_size hz
    have hd1 : X.A.in1.handled = none := I.ok.hd hc
    have hi1 : i < its.toArray.size := by simp; exact (List.getElem?_eq_some_iff.mp hu).1
    have hi2 : i < its2.toArray.size := by simp; exact (List.getElem?_eq_some_iff.mp hu2).1
    refine wpAny_pyNext_zipD2_item (St1 := fun i h => ItK ka h i1 a i ∧ SeK ka h a its.toArray) (St2 := fun i h => ItK kb h i2 b i ∧ SeK kb h b its2.toArray) (P1 := fun i v => its.toArray[i]? = some v) (P2 := fun i v => its2.toArray[i]? = some v) S (drawsK (A := X.A.in1) hd1 ka i1 a na its.toArray) (drawsK (A := X.A.in1) hd1 kb i2 b nb its2.toArray) hz hTI hTO ⟨h1, p⟩ ⟨h2, p2⟩ hi1 hi2 fun x1 x2 h' tk y1 y2 z' TO' d1 d2 hT hsz hk => ?_
    have ex1 : x1 = u := by
      have q : its.toArray[i]? = some u := by simpa using hu
      exact Option.some.inj (y1.symm.trans q)
    have ex2 : x2 = u2 := by
      have q : its2.toArray[i]? = some u2 := by simpa using hu2
      exact Option.some.inj (y2.symm.trans q)
    subst ex1 ex2
    refine ⟨_, rfl, wpAny_letOwnedTupleGo_zip (s := { s with heap := h', toks := tk }) z' fun h'' z'' sb => ?_⟩
    have hT2 : h''.get? s.heap.objs.size = some { cls := .type "tuple", data := .seq #[x1, x2] } := (sb.2 _ (Nat.ne_of_gt hzl)).trans hT
    have new : ObjOk X.prog X.w (upd H s.heap.objs.size (.tup [x, y])) h'' s.heap.objs.size (.tup [x, y]) :=
      ⟨by show 2 ≤ sizeLine; decide, [x1, x2], .cons ru (.cons ru2 .nil), ⟨_, hT2, rfl, _, rfl⟩⟩
    have I1 : Inv X pins σ (upd H s.heap.objs.size (.tup [x, y])) { s with heap := h'', toks := tk } :=
      I.turnedNew (t' := tk) (ch := [z, TI, TO, i1, i2]) (fun c o hb q => (sb.2 c (fun q' => hb (by simp [q']))).trans (hk c o (fun q' => hb (by simp [q'])) (fun q' => hb (by simp [q'])) (fun q' => hb (by simp [q'])) (fun q' => hb (by simp [q'])) q)) hf (Nat.le_refl _) new
    refine ⟨.ref s.heap.objs.size, _, I1, rfl, ⟨_, x, y, rfl, I.hok.fresh (Nat.le_refl _), rfl, fun l hl => by rw [seqK_inj I hl hqx]; exact hx, fun l hl => by rw [seqK_inj I hl hqy]; exact hy⟩, ⟨z'', ?_, ⟨x1, x2, ?_⟩, ?_, ?_⟩, fun c hcm => ?_⟩
    · exact (sb.2 _ S.TIz).trans (hk _ _ S.TIz S.TITO S.TIi1 S.TIi2 hTI)
    · exact (sb.2 _ S.TOz).trans TO'
    · exact d1.1.at fun o q => (sb.2 _ (Ne.symm S.zi1)).trans q
    · exact d2.1.at fun o q => (sb.2 _ (Ne.symm S.zi2)).trans q
    · have hlt : c < s.heap.objs.size := by
        have e' : c = z ∨ c = TI ∨ c = TO ∨ c = i1 ∨ c = i2 := by simpa using hcm
        rcases e' with q | q | q | q | q
        · rw [q]; exact hzl
        · rw [q]; exact Heap.lt_size hTI
        · rw [q]; exact Heap.lt_size hTO
        · rw [q]; obtain ⟨_, e1, _⟩ := h1.live; exact Heap.lt_size e1
        · rw [q]; obtain ⟨_, e2, _⟩ := h2.live; exact Heap.lt_size e2
      rw [upd_ne (Nat.ne_of_lt hlt)]
      exact (hf c hcm).1
  done := by
    intro X hP hw hK hc i pins s σ H E I hf st hg
    subst hP hw hK
    obtain ⟨hz, hTI, ⟨x0, y0, hTO⟩, h1, h2⟩ := st
    obtain ⟨xs, ys, hqx, hqy, m1, m2, hend⟩ := hg
    obtain ⟨its, rv, p, _⟩ := seqK I hqx
    obtain ⟨its2, rv2, p2, _⟩ := seqK I hqy
    have l1 := rv.length
    have l2 := rv2.length
    have hd1 : X.A.in1.handled = none := I.ok.hd hc
    exact wpAny_pyNext_zipD2_end (St1 := fun i h => ItK ka h i1 a i ∧ SeK ka h a its.toArray) (St2 := fun i h => ItK kb h i2 b i ∧ SeK kb h b its2.toArray) (P1 := fun i v => its.toArray[i]? = some v) (P2 := fun i v => its2.toArray[i]? = some v) S (drawsK (A := X.A.in1) hd1 ka i1 a na its.toArray) (drawsK (A := X.A.in1) hd1 kb i2 b nb its2.toArray) hz hTI hTO ⟨h1, p⟩ ⟨h2, p2⟩ (by simp; omega) (by simp; omega) (by simp; omega) fun h' tk hk => ⟨rfl, I.turnedL (t' := tk) (ch := [z, TI, TO, i1, i2]) (fun c o hb q =>
      hk c o (fun q' => hb (by simp [q'])) (fun q' => hb (by simp [q'])) (fun q' => hb (by simp [q'])) (fun q' => hb (by simp [q'])) q) hf⟩
  self := fun A i s Q E st h => wpAny_pyIter_zip st.1 h
def iZipM (K : PySem.W.Frag) (ta : TA) : TI := fun σ H R => ta σ H fun vs H1 => ∃ (ka kb : Bool) (a b : Addr) (xs ys : List V), vs = [.ref a, .ref b] ∧ SqK K ka H1 a xs ∧ SqK K kb H1 b ys ∧ R (ItM K ka kb a b) H1
theorem nin2 {c x y : Nat} (h1 : c ≠ x) (h2 : c ≠ y) : c ∉ [x, y] := by simp [h1, h2]
theorem sep5 {n a b : Nat} (la : a < n) (lb : b < n) : ZipSep2 (n + 4) (n + 2) (n + 3) n (n + 1) [n, a] [n + 1, b] where
  TIz := (by omega : n + 2 ≠ n + 4)
  TOz := (by omega : n + 3 ≠ n + 4)
  TITO := (by omega : n + 2 ≠ n + 3)
  TIi1 := (by omega : n + 2 ≠ n)
  mem1 := by simp
  zf1 := nin2 (c := n + 4) (by omega) (by omega)
  Tf1 := nin2 (c := n + 3) (by omega) (by omega)
  TIi2 := (by omega : n + 2 ≠ n + 1)
  mem2 := by simp
  zf2 := nin2 (c := n + 4) (by omega) (by omega)
  Tf2 := nin2 (c := n + 3) (by omega) (by omega)
  sep1_2 := nin2 (c := n) (by omega) (by omega)
  sep2_1 := nin2 (c := n + 1) (by omega) (by omega)
theorem pi_zipM {X : Cx} {e e2 : Expr} {ta : TA} {p pos tpos : Pos} {elts : List Expr} {kk : Nat} (hg : Gl X "zip") (hm : X.mg "zip" = none) (ha : PA X [e, e2] ta)
    (hs : starEach [e, e2] X.env = (false, eval e X.env) :: starEach [e2] X.env := by rfl) (hpl : (backTo pos (starEach [e2] X.env)).any (·.1) = false := by rfl) :
    PI X (.Tuple elts kk tpos) (.Call (.Name "zip" p) [e, e2] [] pos) (iZipM X.K ta) := by
  refine ⟨fun pins s σ H R I h => ?_⟩
  refine Call_ (ld_blt I hg hm PyProof.Rows.boot_zip (PyProof.Rows.callWith_type1 (thn (ha.run pos pins s σ H _ I h) fun us s1 ⟨vs, H1, I1, r1, q1⟩ => ?_) hs hpl))
  obtain ⟨ka, kb, a, b, xs, ys, ex, hqx, hqy, q⟩ := q1
  subst ex
  cases r1 with
  | cons r rr =>
    cases rr with
    | cons r' rr =>
      cases rr
      cases r
      cases r'
      obtain ⟨its, rv, p1, la⟩ := seqK I1 hqx
      obtain ⟨its2, rv2, p2, lb⟩ := seqK I1 hqy
      obtain ⟨o1, B1, b1⟩ := beginsK ka a its.toArray
      obtain ⟨o2, B2, b2⟩ := beginsK kb b its2.toArray
      refine zip_begins2 B1 B2 p1 p2 fun h' hz hTI hTO h1 h2 hsz hk => wpAny_pyIter_zip hz ?_
      have I2 : Inv X pins σ H1 { s1 with heap := h' } := I1.kept (t' := s1.toks) hk
      refine ⟨s1.heap.objs.size + 4, [s1.heap.objs.size + 4, s1.heap.objs.size + 2, s1.heap.objs.size + 3, s1.heap.objs.size, s1.heap.objs.size + 1], _, _, H1, rfl, I2, turn_zipM (sep5 la lb) (Nat.ne_of_lt la) (Nat.ne_of_lt (Nat.lt_succ_of_lt lb)), ⟨hz, hTI, ⟨_, _, hTO⟩, b1 _ _ h1, b2 _ _ h2⟩, fun c hcm => ?_, q⟩
      have e' : c = s1.heap.objs.size + 4 ∨ c = s1.heap.objs.size + 2 ∨ c = s1.heap.objs.size + 3 ∨ c = s1.heap.objs.size ∨ c = s1.heap.objs.size + 1 := by simpa using hcm
      have hle : s1.heap.objs.size ≤ c := by
        rcases e' with z | z | z | z | z
        · rw [z]; exact Nat.le_add_right _ _
        · rw [z]; exact Nat.le_add_right _ _
        · rw [z]; exact Nat.le_add_right _ _
        · rw [z]; exact Nat.le_refl _
        · rw [z]; exact Nat.le_add_right _ _
      exact I1.fpOk hle (I1.hok.fresh hle)
theorem kzipM {X : Cx} (K : PySem.W.Frag) {e e2 : Expr} {ta : TA} {p pos tpos : Pos} {elts : List Expr} {kk : Nat} (hm : X.mg "zip" = none) (ha : PA X [e, e2] ta) (hg : Gl X "zip" := by rfl)
    (hs : starEach [e, e2] X.env = (false, eval e X.env) :: starEach [e2] X.env := by rfl) (hpl : (backTo pos (starEach [e2] X.env)).any (·.1) = false := by rfl) (hK : X.K = K := by rfl) :
    PI X (.Tuple elts kk tpos) (.Call (.Name "zip" p) [e, e2] [] pos) (iZipM K ta) := hK ▸ pi_zipM hg hm ha hs hpl
theorem walk_zipM {K : PySem.W.Frag} {ka kb : Bool} {a b : Addr} {xs ys : List V} {n : Nat} (hn : n = min xs.length ys.length) : Walk (ItM K ka kb a b) n (fun H => SqK K ka H a xs ∧ SqK K kb H b ys) (YPair (fun i => xs[i]?) (fun i => ys[i]?)) := by
  subst hn
  refine ⟨fun i _ hi q => ?_, fun _ q => ⟨xs, ys, q.1, q.2, by omega, by omega, by omega⟩, fun i H v H' _ q y => ?_⟩
  · have h1 : i < xs.length := by omega
    have h2 : i < ys.length := by omega
    exact ⟨xs, ys, xs[i], ys[i], q.1, q.2, by simp [h1], by simp [h2]⟩
  · obtain ⟨T, x, z, h1, h2, h3, h4, h5⟩ := y
    exact ⟨T, x, z, h1, h2, h3, h4 xs q.1, h5 ys q.2⟩
end Ls
end
section
set_option maxRecDepth 100000
set_option maxHeartbeats 2000000
namespace Ls
open PySem PySem.Spec PyProof.Rows L2
/-! ### sum of a tuple of whole numbers -/
section
variable {prog : Program} {w : World} {A : Around} {E : Value → Shared → Prop} {s : Shared}
theorem sum_rawT {l : Addr} {its : List Value} {ns : List Int} {Q : Value → Shared → Prop} (hh : A.handled = none) (hl : s.heap.IsTuple l its.toArray) (hi : IntsAre its ns)
    (h : ∀ h' tk t', (∀ b o, s.heap.get? b = some o → h'.get? b = some o) → Q (.int ns.sum t') { s with heap := h', toks := tk }) : wpAny (model prog w) A (call (.builtin "sum") [.ref l]) Q E s := by
  obtain ⟨xs, e⟩ := hi.allInts.items
  have hn : numsOf (intItems xs).toList = ns := by rw [← e]; exact hi.numsOf
  rw [nums_intItems] at hn
  rw [e] at hl
  have hlt : l < s.heap.objs.size := by obtain ⟨o, ho, _⟩ := hl; exact Heap.lt_size ho
  refine call_sum_walkG (wpAny_pyIter_tuple hl ?_)
  refine ⟨_, [s.heap.objs.size, l], [s.heap.objs.size], _, _, _, numAt xs, rfl, Walks.tuple (A := A.in1) hh _ l (Nat.ne_of_lt hlt) (intItems xs), ⟨⟨_, Heap.get?_push_size _ rfl, rfl, rfl⟩, hl.push _⟩, fun c hc => ?_, (fun _ _ => intItems_at), fun h' tk t' hk => ?_⟩
  · show c < (s.heap.push _).objs.size
    rw [Heap.size_push]
    rcases List.mem_cons.mp hc with rfl | hc
    · exact Nat.lt_succ_self _
    · rw [List.mem_singleton.mp hc]; exact Nat.lt_succ_of_lt hlt
  · have hold : ∀ c o, s.heap.get? c = some o → h'.get? c = some o := fun c o e => by
      refine hk c o (fun hm => ?_) (Heap.get?_push_of_some _ e)
      have := Heap.lt_size e
      rw [List.mem_singleton.mp hm] at this
      exact Nat.lt_irrefl _ this
    have := h h' tk t' hold
    have e2 : (intItems xs).size = xs.size := by simp [intItems]
    rw [e2, preSum_eq, List.take_of_length_le (by simp), hn]
    exact this
end
def rSumA (K : PySem.W.Frag) : List V → Hp → VK → Prop := fun vs H Q => ∃ (a : Addr) (ns : List Int), vs = [V.ref a] ∧ (SqL K H a (ns.map V.int) ∨ SqT K H a (ns.map V.int)) ∧ Q (.int ns.sum) H
theorem ksumA {X : Cx} (K : PySem.W.Frag) (hc : X.calm = true := by rfl) (hK : X.K = K := by rfl) : CallR X (.builtin "sum") (rSumA K) := by
  subst hK
  intro pins s σ H vs us Q I r h
  obtain ⟨a, ns, rfl, hs, q⟩ := h
  rw [Vals.ref1 r]
  rcases hs with hs | hs
  · obtain ⟨its, rv, hl, _⟩ := I.list hs
    exact sum_raw (I.ok.hd hc) hl.isList rv.ints fun h' tk t' hk => ⟨.int _, H, I.kept hk, ⟨_, rfl⟩, q⟩
  · obtain ⟨its, rv, hl, _⟩ := I.tuple hs
    exact sum_rawT (I.ok.hd hc) hl rv.ints fun h' tk t' hk => ⟨.int _, H, I.kept hk, ⟨_, rfl⟩, q⟩
end Ls
end
section
set_option maxRecDepth 100000
set_option maxHeartbeats 4000000
namespace Ls
open PySem PySem.Spec PyProof.Rows L2
open Sx (cell)
section
variable {P : Program} {w : World} {K : PySem.W.Frag} {mg : Str → Option Value} {base : Heap} {C : Addr}
theorem int_nth {ns : List Int} {i : Nat} {x : V} (h : (ns.map V.int)[i]? = some x) : x = .int (ns.getD i 0) := by
  rw [List.getElem?_map] at h
  rw [List.getD_eq_getElem?_getD]
  cases q : ns[i]? with
  | none => rw [q] at h; cases h
  | some z => rw [q] at h; exact (Option.some.inj h).symm
def spDot (K : PySem.W.Frag) : Sp := fun vs H Q _ => ∃ (ka kb : Bool) (a b : Addr) (xs ys : List Int) (n : Nat), vs = [.ref a, .ref b] ∧ SqK K ka H a (xs.map V.int) ∧ SqK K kb H b (ys.map V.int) ∧ xs.length = n ∧ ys.length = n ∧ n < 1000 ∧ (∀ j, (xs.getD j 0).natAbs < 2 ^ 4101) ∧ (∀ j, (ys.getD j 0).natAbs < 2 ^ 4101) ∧
  ∀ H', Same H H' → Q (.int (Sx.dot n xs ys)) H'
theorem ok_dot {f : Addr} {fd : FuncData} (F : Fun K "_law_dot" "_law_dot" s_law_dot f fd) (T : Bi mg) : FnOk P w K mg base CX0 1 f fd ["row", "numbers"] (spDot K) := by
  refine F.ok sc_law_dot (fun vs H Q E h => ?_) (fun cdv A outer s H vs Q E hr h => ?_)
  · obtain ⟨ka, kb, a, b, xs, ys, n, rfl, _⟩ := h
    rfl
  · obtain ⟨ka, kb, a, b, xs, ys, n, rfl, hA, hB, lx, ly, hn, bx, by_, k⟩ := h
    refine ⟨_, (pss_one (ps_ret (pe_callB (ksum K) (by rfl) T.b_sum (by decide +kernel) (pa_cons (pe_lc (own := [("item", 2), ("number", 3)]) (g := gTup K 2 (gCons (gName 2) (gCons (gName 3) gNil))) (tt := tYes) rfl sc_law_dot.nd (kzipM K T.b_zip (pa_cons (pv 0) (pa_cons (pv 1) pa_nil))) (blkOk_by (own := [("item", 2), ("number", 3)]) (N := ["row", "numbers", "item", "number"]) (sc := defScope s_law_dot) (by decide +kernel)) (fun _ _ _ _ _ => (kg_tup K (pgs_cons (pg_name (i := 2) sc_law_dot.nd rfl (Or.inl rfl)) (pgs_cons (pg_name (i := 3) sc_law_dot.nd rfl (Or.inl rfl)) pgs_nil)))) (fun _ _ _ _ _ => pts_nil) (fun _ _ _ _ _ => (pe_op op_mulW (pv 2) (pv 3)))) pa_nil)))), ?_⟩
    refine ⟨_, rfl, _, rfl, ka, kb, a, b, _, _, rfl, hA, hB, ?_⟩
    refine fun D nD => lc_ints (h := Hid.no) (walk_zipM (n := n) (xs := xs.map V.int) (ys := ys.map V.int) (by rw [List.length_map, List.length_map]; omega)) nD trivial (by omega) (fun j => xs.getD j 0 * ys.getD j 0) (fun H' s' => (by rw [cut_no, cut_no] at s'; exact ⟨hA.mono s', hB.mono s'⟩)) ?_ ?_
    · rintro j x H5 H5' hj le5 ⟨zs, hD⟩ ⟨T2, x1, x2, rfl, nT, rfl, w1, w2⟩ Q' kk
      have e1 := int_nth w1
      have e2 := int_nth w2
      subst e1 e2
      exact ⟨T2, _, rfl, .inl (.inl upd_same), rfl, _, _, rfl, _, _, rfl, rfl, rfl, _, rfl, _, rfl, _, _, rfl, rfl, wide_mul (bx _) (by_ _) (by decide) (by decide) (by decide), kk _ (Le.new trivial nT) (upd_ne (ne_of_none hD nT))⟩
    intro H4 le4 e4
    rw [cut_no] at e4
    refine ⟨D, _, rfl, .inl (.inl e4), ?_⟩
    rw [Sx.sum_sm]
    exact k H4 le4.no
/-- the counts' sums over the rows -/
def sumsOf (R : List (List Int)) (cs : List Int) (size : Nat) : List Int := (List.range size).map fun k => Sx.sm R.length fun i => cs.getD i 0 * cell R i k
def spSums (K : PySem.W.Frag) : Sp := fun vs H Q _ => ∃ (kb : Bool) (a b : Addr) (R : List (List Int)) (cs : List Int) (size : Nat), vs = [.ref a, .ref b, .int (size : Int)] ∧ RowsQ K H a R ∧ SqK K kb H b (cs.map V.int) ∧ cs.length = R.length ∧ R.length < 1000 ∧ size < 1000 ∧ (∀ i, i < R.length → (Sx.row R i).length = size) ∧ (∀ j, (cs.getD j 0).natAbs < 2 ^ 4101) ∧ (∀ i j, (cell R i j).natAbs < 2 ^ 4101) ∧
  ∀ D H', H D = none → Same H H' → H' D = some (.lst ((sumsOf R cs size).map V.int)) → Q (.ref D) H'
theorem ok_sums {f : Addr} {fd : FuncData} (F : Fun K "_law_sums" "_law_sums" s_law_sums f fd) (T : Bi mg) : FnOk P w K mg base CX0 1 f fd ["rows", "counts", "size"] (spSums K) := by
  refine F.ok sc_law_sums (fun vs H Q E h => ?_) (fun cdv A outer s H vs Q E hr h => ?_)
  · obtain ⟨kb, a, b, R, cs, size, rfl, _⟩ := h
    rfl
  · obtain ⟨kb, a, b, R, cs, size, rfl, ⟨as, hA, h2, h3⟩, hB, lc, hn, hs, lR, bc, bR, k⟩ := h
    refine ⟨_, (pss_one (ps_ret (pe_lc (own := [("place", 3)]) (g := gName 3) (tt := tYes) rfl sc_law_sums.nd (pi_range1 (by rfl) T.b_range (pa_cons (pv 2) pa_nil)) (blkOk_by (own := [("place", 3)]) (N := ["rows", "counts", "size", "place", "row", "count"]) (sc := defScope s_law_sums) (by decide +kernel)) (fun _ _ _ _ _ => (pg_name (i := 3) sc_law_sums.nd rfl (by first | exact Or.inl rfl | exact Or.inr rfl))) (fun _ _ _ _ _ => pts_nil) (fun _ _ _ _ _ => (pe_callB (ksum K) (by rfl) T.b_sum (by decide +kernel) (pa_cons (pe_lc (own := [("row", 4), ("count", 5)]) (g := gTup K 2 (gCons (gName 4) (gCons (gName 5) gNil))) (tt := tYes) rfl sc_law_sums.nd (kzipM K T.b_zip (pa_cons (pv 0) (pa_cons (pv 1) pa_nil))) (blkOk_by (own := [("row", 4), ("count", 5)]) (N := ["rows", "counts", "size", "place", "row", "count"]) (sc := relS _ (defScope s_law_sums)) (by decide +kernel)) (fun _ _ _ _ _ => (kg_tup K (pgs_cons (pg_name (i := 4) sc_law_sums.nd rfl (Or.inl rfl)) (pgs_cons (pg_name (i := 5) sc_law_sums.nd rfl (Or.inl rfl)) pgs_nil)))) (fun _ _ _ _ _ => pts_nil) (fun _ _ _ _ _ => (pe_op op_mulW (pv 5) (pe_ix (kixT K) (pv 4) (pv 3) (fun _ _ => rfl))))) pa_nil)))))), ?_⟩
    refine ⟨_, rfl, _, rfl, by omega, by omega, ?_⟩
    rw [Int.toNat_natCast]
    refine fun D nD => lc_ints (h := Hid.no) (walk_range (lo := 0) (n := size)) nD trivial (by omega) (fun p => Sx.sm R.length fun i => cs.getD i 0 * cell R i p) (fun _ _ => trivial) ?_ ?_
    · rintro p x H3 H3' hp le3 ⟨zs, hD⟩ ⟨rfl, rfl⟩ Q' kk
      have s3 := le3.no
      refine ⟨rfl, _, rfl, _, rfl, false, kb, a, b, _, _, rfl, SqK.l (s3.seq hA), hB.mono s3, ?_⟩
      refine fun D2 nD2 => lc_ints (h := Hid.no) (walk_zipM (n := R.length) (xs := as.map V.ref) (ys := cs.map V.int) (by rw [List.length_map, List.length_map]; omega)) nD2 trivial (by omega) (fun i => cs.getD i 0 * cell R i p) (fun H' s' => (by rw [cut_no, cut_no] at s'; exact ⟨SqK.l ((s3.trans s').seq hA), hB.mono (s3.trans s')⟩)) ?_ ?_
      · rintro j x H5 H5' hj le5 ⟨zs2, hD2⟩ ⟨T2, x1, x2, rfl, nT, rfl, w1, w2⟩ Q2 kk2
        have e2 := int_nth w2
        subst e2
        obtain ⟨r, rfl, _, hr2⟩ := nth_row h2 h3 w1
        have le6 : Le Hid.no H5 (upd H5 T2 (.tup [.ref r, .int (cs.getD j 0)])) := Le.new trivial nT
        have hr3 := Same.sqt (s3.trans (le5.trans le6).no) hr2
        have at3 : atI ((Sx.row R j).map V.int) (0 + (p : Int)) = some (.int (cell R j p)) := by
          rw [Int.zero_add]
          exact int_at (by rw [lR j hj]; exact hp)
        refine ⟨T2, _, rfl, .inl (.inl upd_same), rfl, _, _, rfl, _, _, rfl, rfl, rfl, _, rfl, .ref r, rfl, _, rfl, r, _, _, _, rfl, rfl, hr3, at3, _, _, rfl, rfl, wide_mul (bc _) (bR _ _) (by decide) (by decide) (by decide), ?_⟩
        exact kk2 _ le6 (upd_ne (ne_of_none hD2 nT))
      intro H4 le4 e4
      rw [cut_no] at e4
      refine ⟨D2, _, rfl, .inl (.inl e4), ?_⟩
      rw [Sx.sum_sm]
      exact kk H4 le4 ((le4.no _ _ hD).trans hD.symm)
    intro H6 le6 e6
    rw [cut_no] at e6
    exact k D H6 nD le6.no e6
end
end Ls
end
section
set_option maxRecDepth 100000
set_option maxHeartbeats 4000000
namespace Ls
open PySem PySem.Spec PyProof.Rows L2
open Sx (cell)
section
variable {P : Program} {w : World} {K : PySem.W.Frag} {mg : Str → Option Value} {base : Heap} {C : Addr}
theorem tyx_tup {H : Hp} {a : Addr} {xs : List V} (h : SqT K H a xs) : TyX K H (.ref a) (.type "tuple") := by
  rcases h with (e | ⟨o, e⟩) | ⟨o, its, n, e, c, _⟩
  · exact .base (.tup e)
  · exact .fTuple e
  · exact .kTuple e c
def spIsPair (K : PySem.W.Frag) : Sp := fun vs H Q _ => ∃ (D : Addr) (w0 word : Str) (rest : List V) (size : Int), vs = [.ref D, .str word, .int size] ∧ SqT K H D (.str w0 :: rest) ∧ Q (.bl (decide (((rest.length + 1 : Nat) : Int) = size) && decide (w0 = word))) H
theorem ok_is_pair {f : Addr} {fd : FuncData} (F : Fun K "_law_is_pair" "_law_is_pair" s_law_is_pair f fd) (T : Bi mg) : FnOk P w K mg base CX0 1 f fd ["thing", "word", "size"] (spIsPair K) := by
  refine F.ok sc_law_is_pair (fun vs H Q E h => ?_) (fun cdv A outer s H vs Q E hr h => ?_)
  · obtain ⟨D, w0, word, rest, size, rfl, _⟩ := h
    rfl
  · obtain ⟨D, w0, word, rest, size, rfl, hD, k⟩ := h
    refine ⟨_, (pss_one (ps_ret (pe_and (pe_callB (kisi K) (by rfl) T.b_isinstance (by decide +kernel) (pa_cons (pv 0) (pa_cons (pe_bltn (v := .ty "tuple") (u := .type "tuple") (by rfl) T.b_tuple (by decide +kernel) rfl) pa_nil))) (pe_and (pe_cmpR op_eq (pe_callB (klen K) (by rfl) T.b_len (by decide +kernel) (pa_cons (pv 0) pa_nil)) (pv 2) (nomark _)) (pe_and (pe_callB (kisi K) (by rfl) T.b_isinstance (by decide +kernel) (pa_cons (pe_ix (kixT K) (pv 0) pe_int (fun _ _ => rfl)) (pa_cons (pe_bltn (v := .ty "str") (u := .type "str") (by rfl) T.b_str (by decide +kernel) rfl) pa_nil))) (pe_one (pe_cmpR op_eq (pe_ix (kixT K) (pv 0) pe_int (fun _ _ => rfl)) (pv 1) (nomark _)))))))), ?_⟩
    refine ⟨.ref D, rfl, .ref D, .ty "tuple", _, _, true, rfl, .ty "tuple", tyx_tup hD, kit_ty (by decide), true, rfl, iteT ?_⟩
    refine ⟨.ref D, rfl, D, _, rfl, .inr hD, .int size, rfl, rfl, _, rfl, ?_⟩
    by_cases c : ((rest.length + 1 : Nat) : Int) = size
    · rw [show decide (V.int (((V.str w0 :: rest).length : Nat) : Int) = V.int size) = true from decide_eq_true (by rw [← c]; rfl)]
      rw [decide_eq_true c, Bool.true_and] at k
      have a0 : atI (V.str w0 :: rest) 0 = some (.str w0) := atI_nat (j := 0) rfl
      refine iteT ⟨.ref D, rfl, D, _, _, .str w0, rfl, rfl, hD, a0, .str w0, .ty "str", _, _, true, rfl, .ty "str", .base (.str w0), kit_ty (by decide), true, rfl, iteT ?_⟩
      refine ⟨.ref D, rfl, D, _, _, .str w0, rfl, rfl, hD, a0, .str word, rfl, rfl, ?_⟩
      have : decide (V.str w0 = V.str word) = decide (w0 = word) := by
        by_cases q : w0 = word
        · rw [q]; simp
        · rw [decide_eq_false q, decide_eq_false fun z => q (V.str.inj z)]
      rw [this]; exact k
    · rw [show decide (V.int (((V.str w0 :: rest).length : Nat) : Int) = V.int size) = false from decide_eq_false fun z => c (V.int.inj z)]
      rw [decide_eq_false c, Bool.false_and] at k
      exact iteF k
def spAre (K : PySem.W.Frag) : Sp := fun vs H Q _ => ∃ (D : Addr) (ns : List Int) (size : Int), vs = [.ref D, .int size] ∧ SqT K H D (ns.map V.int) ∧ ns.length < 1000 ∧ ∀ H', Same H H' → Q (.bl (decide ((ns.length : Int) = size))) H'
theorem ok_are {f : Addr} {fd : FuncData} (F : Fun K "_law_are_numbers" "_law_are_numbers" s_law_are_numbers f fd) (T : Bi mg) : FnOk P w K mg base CX0 1 f fd ["thing", "size"] (spAre K) := by
  refine F.ok sc_law_are_numbers (fun vs H Q E h => ?_) (fun cdv A outer s H vs Q E hr h => ?_)
  · obtain ⟨D, ns, size, rfl, _⟩ := h
    rfl
  · obtain ⟨D, ns, size, rfl, hD, hn, k⟩ := h
    refine ⟨_, (pss_one (ps_ret (pe_and (pe_callB (kisi K) (by rfl) T.b_isinstance (by decide +kernel) (pa_cons (pv 0) (pa_cons (pe_bltn (v := .ty "tuple") (u := .type "tuple") (by rfl) T.b_tuple (by decide +kernel) rfl) pa_nil))) (pe_and (pe_cmpR op_eq (pe_callB (klen K) (by rfl) T.b_len (by decide +kernel) (pa_cons (pv 0) pa_nil)) (pv 1) (nomark _)) (pe_one (pe_cmpR (keqD K hr.units) (pe_lc (own := [("item", 2)]) (g := gName 2) (tt := _) rfl sc_law_are_numbers.nd (kfor_tup K (pv 0)) (blkOk_by (own := [("item", 2)]) (N := ["thing", "size", "item"]) (sc := defScope s_law_are_numbers) (by decide +kernel)) (fun _ _ _ _ _ => (pg_name (i := 2) sc_law_are_numbers.nd rfl (Or.inl rfl))) (fun _ _ _ _ _ => (by exact (pts_one (PW.pt (pw_or (pt_not (pt_val (pe_callB (kisi K) (by rfl) T.b_isinstance (by decide +kernel) (pa_cons (pv 2) (pa_cons (pe_bltn (v := .ty "int") (u := .type "int") (by rfl) T.b_int (by decide +kernel) rfl) pa_nil))))) (pw_or1 (pt_val (pe_callB (kisi K) (by rfl) T.b_isinstance (by decide +kernel) (pa_cons (pv 2) (pa_cons (pe_bltn (v := .ty "bool") (u := .type "bool") (by rfl) T.b_bool (by decide +kernel) rfl) pa_nil)))))))))) (fun _ _ _ _ _ => (pv 2))) (pe_lst pa_nil) (nomark _))))))), ?_⟩
    refine ⟨.ref D, rfl, .ref D, .ty "tuple", _, _, true, rfl, .ty "tuple", tyx_tup hD, kit_ty (by decide), true, rfl, iteT ?_⟩
    refine ⟨.ref D, rfl, D, _, rfl, .inr hD, .int size, rfl, rfl, _, rfl, ?_⟩
    rw [List.length_map]
    by_cases c : (ns.length : Int) = size
    · rw [show decide (V.int ((ns.length : Nat) : Int) = V.int size) = true from decide_eq_true (by rw [← c])]
      rw [decide_eq_true c] at k
      refine iteT ⟨.ref D, rfl, D, rfl, ⟨_, hD⟩, ?_⟩
      refine fun M nM => lc_sel (h := Hid.no) (walk_tup (K := K) (a := D) (xs := ns.map V.int)) nM trivial (by simp; omega) (fun _ => false) (fun _ => .non) (fun H' s' => (by rw [cut_no, cut_no] at s'; exact Same.sqt s' hD)) ?_ ?_
      · rintro i x H3 H3' hi le3 _ ⟨rfl, hx⟩ Q' N kq kn
        obtain ⟨z, hz, rfl⟩ := ints_at hx
        refine ⟨rfl, _, rfl, .int z, .ty "int", _, _, true, rfl, .ty "int", .base (.int z), kit_ty (by decide), true, rfl, iteF ⟨_, rfl, .int z, .ty "bool", _, _, false, rfl, .ty "bool", .base (.int z), kit_ty (by decide), false, rfl, iteF ?_⟩⟩
        exact kn H3' (Le.refl trivial) rfl rfl
      intro H4 le4 e4
      rw [cut_no] at e4
      rw [show (List.range (ns.map V.int).length).filter (fun _ => false) = [] by simp] at e4
      refine ⟨Nat.zero_le _, fun z nz => ?_⟩
      have sz := same_new (o := .lst []) nz
      exact eqD_nil (ns := []) (.inl (.inl (sz _ _ e4))) (.inl (.inl upd_same)) (k _ (le4.no.trans sz))
    · rw [show decide (V.int ((ns.length : Nat) : Int) = V.int size) = false from decide_eq_false fun z => c (V.int.inj z)]
      rw [decide_eq_false c] at k
      exact iteF (k H (Same.refl _))
def spBegun (K : PySem.W.Frag) : Sp := fun vs H Q _ => ∃ (a : Addr) (ns : List Int), vs = [.ref a] ∧ SqL K H a (ns.map V.int) ∧ ns.length < 1000 ∧ ∀ t l c H', Same H H' → TapeAt t l c H' → H t = none → H l = none → H c = none → Q (.ref t) H'
theorem ok_begun {f : Addr} {fd : FuncData} (F : Fun K "_law_begun" "_law_begun" s_law_begun f fd) (T : Bi mg) : FnOk P w K mg base CX0 1 f fd ["script"] (spBegun K) := by
  refine F.ok sc_law_begun (fun vs H Q E h => ?_) (fun cdv A outer s H vs Q E hr h => ?_)
  · obtain ⟨a, ns, rfl, _⟩ := h
    rfl
  · obtain ⟨a, ns, rfl, hA, hn, k⟩ := h
    refine ⟨_, (pss_cons (ps_setLc (i := 1) (own := [("grain", 2)]) (g := gName 2) (tt := _) rfl sc_law_begun.nd rfl rfl (sw_true rfl rfl rfl (by decide +kernel)) (kfor_list K (pv 0)) (blkOk_by (own := [("grain", 2)]) (N := ["script", "large", "grain"]) (sc := defScope s_law_begun) (by decide +kernel)) (fun _ _ _ _ _ => (pg_name (i := 2) sc_law_begun.nd rfl (Or.inl rfl))) (fun _ _ _ _ _ => (by exact (pts_one (pt_cmpR op_ge (pe_callB call_abs (by rfl) T.b_abs (by decide +kernel) (pa_cons (pv 2) pa_nil)) (pe_op op_pow pe_int pe_int) (nomark _))))) (fun _ _ _ _ _ => (pe_op op_sub (pe_callB call_abs (by rfl) T.b_abs (by decide +kernel) (pa_cons (pv 2) pa_nil)) (pe_op op_pow pe_int pe_int))))
      (pss_one (ps_ret (pe_disp (pps_cons pe_str (pv 1) (pps_cons pe_str pe_int (pps_cons pe_str (pe_lc (own := [("grain", 2)]) (g := gName 2) (tt := tYes) rfl sc_law_begun.nd (kfor_list K (pv 0)) (blkOk_by (own := [("grain", 2)]) (N := ["script", "large", "grain"]) (sc := defScope s_law_begun) (by decide +kernel)) (fun _ _ _ _ _ => (pg_name (i := 2) sc_law_begun.nd rfl (Or.inl rfl))) (fun _ _ _ _ _ => pts_nil) (fun _ _ _ _ _ => (pe_callB call_abs (by rfl) T.b_abs (by decide +kernel) (pa_cons (pv 2) pa_nil)))) (pps_cons pe_str pe_int pps_nil)))) (by rfl) (by rfl) (by simp) (by decide))))), ?_⟩
    refine ⟨_, rfl, a, rfl, ⟨_, hA⟩, ?_⟩
    let ab : Nat → Int := fun i => if ns.getD i 0 < 0 then - ns.getD i 0 else ns.getD i 0
    refine fun l nl => lc_sel (h := Hid.no) (walk_list (K := K) (a := a) (xs := ns.map V.int)) nl trivial (by simp; omega) (fun i => decide ((10 : Int) ^ 18 ≤ ab i)) (fun i => .int (ab i - 10 ^ 18)) (fun H' s' => (by rw [cut_no, cut_no] at s'; exact s'.seq hA)) ?_ ?_
    · rintro i x H3 H3' hi le3 _ ⟨rfl, hx⟩ Q' N kq kn
      have e := int_nth hx
      subst e
      refine ⟨rfl, _, rfl, _, rfl, _, _, rfl, rfl, ⟨by decide, by decide, by decide⟩, _, _, rfl, rfl, _, rfl, ?_⟩
      cases q : decide ((10 : Int) ^ 18 ≤ ab i) with
      | true =>
        rw [show decide ((10 : Int) ^ (18 : Int).toNat ≤ (if ns.getD i 0 < 0 then - ns.getD i 0 else ns.getD i 0)) = true from q]
        refine iteT ⟨_, rfl, _, rfl, _, _, rfl, rfl, ⟨by decide, by decide, by decide⟩, _, _, rfl, rfl, ?_⟩
        exact kq H3' (Le.refl trivial) rfl q
      | false =>
        rw [show decide ((10 : Int) ^ (18 : Int).toNat ≤ (if ns.getD i 0 < 0 then - ns.getD i 0 else ns.getD i 0)) = false from q]
        exact iteF (kn H3' (Le.refl trivial) rfl q)
    intro H1 le1 e1
    rw [cut_no] at e1
    have s1 := le1.no
    refine fun p np => ⟨_, rfl, ?_⟩
    have sp := same_new (o := .dK []) np
    have hA2 := (s1.trans sp).seq hA
    refine ⟨_, rfl, a, rfl, ⟨_, hA2⟩, ?_⟩
    refine fun c nc => lc_ints (h := Hid.no) (walk_list (K := K) (a := a) (xs := ns.map V.int)) nc trivial (by simp; omega) ab (fun H' s' => (by rw [cut_no, cut_no] at s'; exact s'.seq hA2)) ?_ ?_
    · rintro i x H3 H3' hi le3 _ ⟨rfl, hx⟩ Q' kk
      have e := int_nth hx
      subst e
      exact ⟨rfl, _, rfl, _, rfl, kk H3' (Le.refl trivial) rfl⟩
    intro H2 le2 e2
    rw [cut_no] at e2
    have s2 := le2.no
    have ep : H2 p = some (.dK []) := s2 _ _ upd_same
    have el : H2 l = some _ := s2 _ _ (sp _ _ e1)
    refine ⟨ep, [(.inr "large", .ref l), (.inr "rest", .int 0), (.inr "cells", .ref c), (.inr "turn", .int 0)], rfl, (show 4 ≤ 15 by decide), ?_⟩
    have np0 : H p = none := none_of s1 np
    have nc0 : H c = none := none_of (s1.trans sp) nc
    have npl : l ≠ p := fun z => by rw [z, np] at e1; cases e1
    have npc : c ≠ p := fun z => by rw [z, upd_same] at nc; cases nc
    have nlc : l ≠ c := fun z => by rw [← z, sp _ _ e1] at nc; cases nc
    have ee : (((List.range (ns.map V.int).length).filter fun i => decide ((10 : Int) ^ 18 ≤ ab i)).map fun i => V.int (ab i - 10 ^ 18)) = ((((List.range (ns.map V.int).length).filter fun i => decide ((10 : Int) ^ 18 ≤ ab i)).map fun i => ab i - 10 ^ 18).map V.int) := by rw [List.map_map]; rfl
    have el' : (upd H2 p (.dK (mergeK [] [(.inr "large", .ref l), (.inr "rest", .int 0), (.inr "cells", .ref c), (.inr "turn", .int 0)]))) l = some (.lst (((((List.range (ns.map V.int).length).filter fun i => decide ((10 : Int) ^ 18 ≤ ab i)).map fun i => ab i - 10 ^ 18)).map V.int)) := by
      rw [upd_ne npl, el, ee]
    exact k p l c _ (same_mut ((s1.trans sp).trans s2) np0) ⟨0, 0, _, _, upd_same, el', (upd_ne npc).trans e2, nlc⟩ np0 nl nc0
end
end Ls
end
section
set_option maxRecDepth 100000
set_option maxHeartbeats 4000000
namespace Ls
open PySem PySem.Spec PyProof.Rows L2
open Sx (cell)
section
variable {P : Program} {w : World} {K : PySem.W.Frag} {mg : Str → Option Value} {base : Heap} {C : Addr}
theorem filter_no {n : Nat} {f : Nat → Bool} (h : ∀ i, i < n → f i = false) : (List.range n).filter f = [] := by
  rw [List.filter_eq_nil_iff]
  intro i hi
  rw [h i (List.mem_range.mp hi)]; decide
theorem sum_list (x : List Int) : x.sum = Sx.sm x.length (fun i => x.getD i 0) := by
  rw [← Sx.sum_sm]
  congr 1
  refine List.ext_getElem (by simp) fun i h1 h2 => ?_
  simp at h2
  simp [h1]
theorem sums_at {R : List (List Int)} {cs : List Int} {size j : Nat} (h : j < size) : (sumsOf R cs size).getD j 0 = Sx.sm R.length fun i => cs.getD i 0 * cell R i j := by
  unfold sumsOf
  rw [Sx.getD_map h]
theorem sums_len {R : List (List Int)} {cs : List Int} {size : Nat} : (sumsOf R cs size).length = size := by unfold sumsOf; simp
theorem not_word : ¬ (Str.ofString "cancel" = Str.ofString "below") := by decide
theorem pow_step : (2 : Nat) ^ 4100 < 2 ^ 4101 := Nat.pow_lt_pow_right (by decide) (by decide)
theorem pow_100 : (2 : Nat) ^ 100 < 2 ^ 4101 := Nat.pow_lt_pow_right (by decide) (by decide)
def spIsTold (K : PySem.W.Frag) : Sp := fun vs H Q _ => ∃ (a e D : Addr) (R EE : List (List Int)) (size : Nat) (others : Bool), vs = [.ref a, .ref e, .int (size : Int), .ref D, .bl others] ∧ RowsQ K H a R ∧ RowsQ K H e EE ∧ (∀ i, i < R.length → (Sx.row R i).length = size) ∧ (∀ i, i < EE.length → (Sx.row EE i).length = size) ∧ size ≤ 20 ∧ R.length ≤ 100 ∧ EE.length ≤ 100 ∧
  (∀ i k, (cell R i k).natAbs < 2 ^ 100) ∧ (∀ i k, (cell EE i k).natAbs < 2 ^ 100) ∧ ((others = true ∧ ToldAt K H D R EE size) ∨ (others = false ∧ EE = [] ∧ ToldP K H D R size)) ∧ ∀ H', Same H H' → Q (.bl true) H'
theorem ok_is_told {f : Addr} {fd : FuncData} (F : Fun K "_law_is_told" "_law_is_told" s_law_is_told f fd) (T : Bi mg) (D_law_is_pair : Df P w K mg base 1 "_law_is_pair" ["thing", "word", "size"] (spIsPair K)) (D_law_are_numbers : Df P w K mg base 1 "_law_are_numbers" ["thing", "size"] (spAre K))
    (D_law_dot : Df P w K mg base 1 "_law_dot" ["row", "numbers"] (spDot K)) (D_law_sums : Df P w K mg base 1 "_law_sums" ["rows", "counts", "size"] (spSums K)) : FnOk P w K mg base CX0 2 f fd ["rows", "even", "size", "told", "others"] (spIsTold K) := by
  refine F.ok sc_law_is_told (fun vs H Q E h => ?_) (fun cdv A outer s H vs Q E hr h => ?_)
  · obtain ⟨a, e, D, R, EE, size, others, rfl, _⟩ := h
    rfl
  · obtain ⟨a, e, D, R, EE, size, others, rfl, hR, hE, lR, lE, hs, nR, nE, bR, bE, told, k⟩ := h
    refine ⟨_, (pss_cons (ps_if (pt_val (pe_df D_law_is_pair (hr.mono (by decide)) (by rfl) (pa_cons (pv 3) (pa_cons pe_str (pa_cons pe_int pa_nil))))) (pss_cons (ps_if (pt_not (pt_val (pe_df D_law_are_numbers (hr.mono (by decide)) (by rfl) (pa_cons (pe_ix (kixT K) (pv 3) pe_int (fun _ _ => rfl)) (pa_cons (pv 2) pa_nil))))) (pss_one (ps_ret pe_bl)) pss_nil)
      (pss_one (ps_ret (pe_and (pe_cmpR (keqD K hr.units) (pe_lc (own := [("row", 10)]) (g := gName 10) (tt := _) rfl sc_law_is_told.nd (kfor_list K (pv 0)) (blkOk_by (own := [("row", 10)]) (N := ["rows", "even", "size", "told", "others", "sums", "item", "count", "one", "other", "row"]) (sc := defScope s_law_is_told) (by decide +kernel)) (fun _ _ _ _ _ => (pg_name (i := 10) sc_law_is_told.nd rfl (Or.inl rfl))) (fun _ _ _ _ _ => (by exact (pts_one (pt_cmpR op_ge (pe_df D_law_dot (hr.mono (by decide)) (by rfl) (pa_cons (pv 10) (pa_cons (pe_ix (kixT K) (pv 3) pe_int (fun _ _ => rfl)) pa_nil))) pe_int (nomark _))))) (fun _ _ _ _ _ => (pv 10))) (pe_lst pa_nil) (nomark _)) (pe_one (pe_cmpR (keqD K hr.units) (pe_lc (own := [("row", 10)]) (g := gName 10) (tt := _) rfl sc_law_is_told.nd (kfor_list K (pv 1)) (blkOk_by (own := [("row", 10)]) (N := ["rows", "even", "size", "told", "others", "sums", "item", "count", "one", "other", "row"]) (sc := defScope s_law_is_told) (by decide +kernel)) (fun _ _ _ _ _ => (pg_name (i := 10) sc_law_is_told.nd rfl (Or.inl rfl))) (fun _ _ _ _ _ => (by exact (pts_one (pt_cmpR op_ne (pe_df D_law_dot (hr.mono (by decide)) (by rfl) (pa_cons (pv 10) (pa_cons (pe_ix (kixT K) (pv 3) pe_int (fun _ _ => rfl)) pa_nil))) pe_int (nomark _))))) (fun _ _ _ _ _ => (pv 10))) (pe_lst pa_nil) (nomark _))))))) pss_nil)
      (pss_cons (ps_if (PW.pt (pw_or (pt_not (pt_val (pe_df D_law_is_pair (hr.mono (by decide)) (by rfl) (pa_cons (pv 3) (pa_cons pe_str (pa_cons (pe_ifExp (pt_val (pv 4)) pe_int pe_int) pa_nil)))))) (pw_or1 (pt_not (pt_val (pe_df D_law_are_numbers (hr.mono (by decide)) (by rfl) (pa_cons (pe_ix (kixT K) (pv 3) pe_int (fun _ _ => rfl)) (pa_cons (pe_callB (klen K) (by rfl) T.b_len (by decide +kernel) (pa_cons (pv 0) pa_nil)) pa_nil)))))))) (pss_one (ps_ret pe_bl)) pss_nil)
      (pss_cons (ps_if (PW.pt (pw_or (pt_cmpR (kneD K hr.units) (pe_lc (own := [("count", 7)]) (g := gName 7) (tt := _) rfl sc_law_is_told.nd (kfor_tup K (pe_ix (kixT K) (pv 3) pe_int (fun _ _ => rfl))) (blkOk_by (own := [("count", 7)]) (N := ["rows", "even", "size", "told", "others", "sums", "item", "count", "one", "other", "row"]) (sc := defScope s_law_is_told) (by decide +kernel)) (fun _ _ _ _ _ => (pg_name (i := 7) sc_law_is_told.nd rfl (Or.inl rfl))) (fun _ _ _ _ _ => (by exact (pts_one (pt_cmpR op_lt (pv 7) pe_int (nomark _))))) (fun _ _ _ _ _ => (pv 7))) (pe_lst pa_nil) (nomark _)) (pw_or1 (pt_cmpR op_eq (pe_callB (ksumA K) (by rfl) T.b_sum (by decide +kernel) (pa_cons (pe_ix (kixT K) (pv 3) pe_int (fun _ _ => rfl)) pa_nil)) pe_int (nomark _))))) (pss_one (ps_ret pe_bl)) pss_nil)
      (pss_cons (ps_set (i := 5) sc_law_is_told.nd rfl (Or.inl rfl) (pe_df D_law_sums (hr.mono (by decide)) (by rfl) (pa_cons (pv 0) (pa_cons (pe_ix (kixT K) (pv 3) pe_int (fun _ _ => rfl)) (pa_cons (pv 2) pa_nil)))))
      (pss_cons (ps_if (pt_val (pv 4)) (pss_cons (ps_if (pt_not (pt_val (pe_df D_law_are_numbers (hr.mono (by decide)) (by rfl) (pa_cons (pe_ix (kixT K) (pv 3) pe_int (fun _ _ => rfl)) (pa_cons (pe_callB (klen K) (by rfl) T.b_len (by decide +kernel) (pa_cons (pv 1) pa_nil)) pa_nil))))) (pss_one (ps_ret pe_bl)) pss_nil)
      (pss_one (ps_setLc (i := 5) (own := [("one", 8), ("other", 9)]) (g := gTup K 2 (gCons (gName 8) (gCons (gName 9) gNil))) (tt := tYes) rfl sc_law_is_told.nd rfl rfl (sw_true rfl rfl rfl (by decide +kernel)) (kzip K T.b_zip (pa_cons (pv 5) (pa_cons (pe_df D_law_sums (hr.mono (by decide)) (by rfl) (pa_cons (pv 1) (pa_cons (pe_ix (kixT K) (pv 3) pe_int (fun _ _ => rfl)) (pa_cons (pv 2) pa_nil)))) pa_nil))) (blkOk_by (own := [("one", 8), ("other", 9)]) (N := ["rows", "even", "size", "told", "others", "sums", "item", "count", "one", "other", "row"]) (sc := defScope s_law_is_told) (by decide +kernel)) (fun _ _ _ _ _ => (kg_tup K (pgs_cons (pg_name (i := 8) sc_law_is_told.nd rfl (Or.inl rfl)) (pgs_cons (pg_name (i := 9) sc_law_is_told.nd rfl (Or.inl rfl)) pgs_nil)))) (fun _ _ _ _ _ => pts_nil) (fun _ _ _ _ _ => (pe_op op_add (pv 8) (pv 9)))))) pss_nil)
      (pss_one (ps_ret (pe_cmpR (keqD K hr.units) (pe_lc (own := [("item", 6)]) (g := gName 6) (tt := _) rfl sc_law_is_told.nd (kfor_list K (pv 5)) (blkOk_by (own := [("item", 6)]) (N := ["rows", "even", "size", "told", "others", "sums", "item", "count", "one", "other", "row"]) (sc := defScope s_law_is_told) (by decide +kernel)) (fun _ _ _ _ _ => (pg_name (i := 6) sc_law_is_told.nd rfl (Or.inl rfl))) (fun _ _ _ _ _ => (by exact (pts_one (pt_cmpR op_ne (pv 6) pe_int (nomark _))))) (fun _ _ _ _ _ => (pv 6))) (pe_lst pa_nil) (nomark _))))))))), ?_⟩
    obtain ⟨as, hA, a2, a3⟩ := id hR
    obtain ⟨es, hE1, e2, e3⟩ := id hE
    have form : (∃ D1 y, H D = some (.tup [strV "below", .ref D1]) ∧ SqT K H D1 (y.map V.int) ∧ Sx.Below R EE size y) ∨
        (∃ D1 x rest z, H D = some (.tup (strV "cancel" :: .ref D1 :: rest)) ∧ SqT K H D1 (x.map V.int) ∧ Sx.Cancel R EE size x z ∧ ((others = true ∧ ∃ D2, rest = [.ref D2] ∧ SqT K H D2 (z.map V.int)) ∨ (others = false ∧ EE = [] ∧ rest = []))) := by
      rcases told with ⟨ho, t⟩ | ⟨ho, he, t⟩
      · rcases t with ⟨D1, y, h1, h2, h3⟩ | ⟨D1, D2, x, z, h1, h2, h3, h4⟩
        · exact .inl ⟨D1, y, h1, h2, h3⟩
        · exact .inr ⟨D1, x, [.ref D2], z, h1, h2, h4, .inl ⟨ho, D2, rfl, h3⟩⟩
      · subst he
        rcases t with ⟨D1, y, h1, h2, h3⟩ | ⟨D1, x, z, h1, h2, h3⟩
        · exact .inl ⟨D1, y, h1, h2, h3⟩
        · exact .inr ⟨D1, x, [], z, h1, h2, h3, .inr ⟨ho, rfl, rfl⟩⟩
    rcases form with ⟨D1, y, eD, e1, hb⟩ | ⟨D1, x, rest, z, eD, e1, hc, ho⟩
    · have td : SqT K H D (strV "below" :: [.ref D1]) := .inl (.inl eD)
      have at1 : atI [strV "below", .ref D1] 1 = some (.ref D1) := atI_nat (j := 1) rfl
      have ly := hb.len
      refine ⟨_, rfl, D, _, _, _, 2, rfl, td, _, rfl, ?_⟩
      refine iteT ⟨.ref D, rfl, D, _, _, _, rfl, rfl, td, at1, _, rfl, D1, y, _, rfl, e1, by omega, fun H1 s1 => ⟨_, rfl, ?_⟩⟩
      rw [ly, decide_eq_true (show ((size : Nat) : Int) = (size : Int) from rfl)]
      refine iteF ⟨_, rfl, a, rfl, ⟨_, s1.seq hA⟩, ?_⟩
      have by1 : ∀ j, (y.getD j 0).natAbs < 2 ^ 4101 := fun j => Nat.lt_trans (hb.bd j) pow_step
      have r1 : ∀ (M : List (List Int)) (b : ∀ i k, (cell M i k).natAbs < 2 ^ 100) (i j : Nat), ((Sx.row M i).getD j 0).natAbs < 2 ^ 4101 := fun M b i j => Nat.lt_trans (b i j) pow_100
      refine fun M nM => lc_sel (h := Hid.no) (walk_list (K := K) (a := a) (xs := as.map V.ref)) nM trivial (by simp; omega) (fun _ => false) (fun _ => .non) (fun H' s' => (by rw [cut_no, cut_no] at s'; exact (s1.trans s').seq hA)) ?_ ?_
      · rintro i x H3 H3' hi le3 ⟨zs, hM⟩ ⟨rfl, hx⟩ Q' N kq kn
        obtain ⟨b, rfl, hi2, hb2⟩ := nth_row a2 a3 hx
        have s3 := s1.trans le3.no
        refine ⟨rfl, .ref b, rfl, .ref D, rfl, D, _, _, _, rfl, rfl, Same.sqt s3 td, at1, true, true, b, D1, Sx.row R i, y, size, rfl, Same.sqt s3 hb2, Same.sqt s3 e1, lR i hi2, ly, by omega, r1 R bR i, by1, fun H4 s4 => ⟨_, _, rfl, rfl, _, rfl, ?_⟩⟩
        have hlt := hb.lt i hi2
        rw [decide_eq_false (show ¬ ((0 : Int) ≤ Sx.dot size (Sx.row R i) y) by omega)]
        exact iteF (kn H4 (Le.of (h := Hid.no) trivial s4) ((s4 _ _ hM).trans hM.symm) rfl)
      intro H4 le4 e4
      rw [cut_no, filter_no (fun _ _ => rfl)] at e4
      have s4 := s1.trans le4.no
      refine ⟨Nat.zero_le _, fun q nq => ?_⟩
      have sq := same_new (o := .lst []) nq
      have s5 := s4.trans sq
      refine eqD_nil (ns := []) (.inl (.inl (sq _ _ e4))) (.inl (.inl upd_same)) ⟨true, rfl, iteT ⟨_, rfl, e, rfl, ⟨_, s5.seq hE1⟩, ?_⟩⟩
      refine fun M2 nM2 => lc_sel (h := Hid.no) (walk_list (K := K) (a := e) (xs := es.map V.ref)) nM2 trivial (by simp; omega) (fun _ => false) (fun _ => .non) (fun H' s' => (by rw [cut_no, cut_no] at s'; exact (s5.trans s').seq hE1)) ?_ ?_
      · rintro i x H3 H3' hi le3 ⟨zs, hM⟩ ⟨rfl, hx⟩ Q' N kq kn
        obtain ⟨b, rfl, hi2, hb2⟩ := nth_row e2 e3 hx
        have s3 := s5.trans le3.no
        refine ⟨rfl, .ref b, rfl, .ref D, rfl, D, _, _, _, rfl, rfl, Same.sqt s3 td, at1, true, true, b, D1, Sx.row EE i, y, size, rfl, Same.sqt s3 hb2, Same.sqt s3 e1, lE i hi2, ly, by omega, r1 EE bE i, by1, fun H4 s4 => ⟨rfl, _, rfl, ?_⟩⟩
        rw [hb.eq i hi2]
        exact iteF (kn H4 (Le.of (h := Hid.no) trivial s4) ((s4 _ _ hM).trans hM.symm) rfl)
      intro H6 le6 e6
      rw [cut_no, filter_no (fun _ _ => rfl)] at e6
      refine ⟨Nat.zero_le _, fun q2 nq2 => ?_⟩
      have sq2 := same_new (o := .lst []) nq2
      exact eqD_nil (ns := []) (.inl (.inl (sq2 _ _ e6))) (.inl (.inl upd_same)) (k _ ((s5.trans le6.no).trans sq2))
    · have td : SqT K H D (strV "cancel" :: .ref D1 :: rest) := .inl (.inl eD)
      have at1 : atI (strV "cancel" :: .ref D1 :: rest) 1 = some (.ref D1) := atI_nat (j := 1) rfl
      have lx := hc.xl
      rcases ho with ⟨rfl, D2, rfl, e2'⟩ | ⟨rfl, rfl, rfl⟩
      · refine ⟨_, rfl, D, _, _, _, 2, rfl, td, _, rfl, ?_⟩
        rw [decide_eq_false not_word, Bool.and_false]
        refine iteF ⟨.ref D, rfl, .bl true, rfl, true, rfl, iteT ⟨D, _, _, _, 3, rfl, td, _, rfl, iteF ?_⟩⟩
        refine ⟨.ref D, rfl, D, _, _, _, rfl, rfl, td, at1, .ref a, rfl, a, _, rfl, .inl hA, D1, x, _, rfl, e1, by omega, fun H1 s1 => ⟨_, rfl, ?_⟩⟩
        rw [show decide ((x.length : Int) = (((as.map V.ref).length : Nat) : Int)) = true from decide_eq_true (by rw [List.length_map, a2, hc.xl])]
        refine iteF ?_
        refine ⟨.ref D, rfl, D, _, _, _, rfl, rfl, Same.sqt s1 td, at1, D1, rfl, ⟨_, Same.sqt s1 e1⟩, ?_⟩
        refine fun M nM => lc_sel (h := Hid.no) (walk_tup (K := K) (a := D1) (xs := x.map V.int)) nM trivial (by simp; omega) (fun _ => false) (fun _ => .non) (fun H' s' => (by rw [cut_no, cut_no] at s'; exact Same.sqt (s1.trans s') e1)) ?_ ?_
        · rintro i y H3 H3' hi le3 _ ⟨rfl, hx⟩ Q' N kq kn
          have ey := int_nth hx
          subst ey
          refine ⟨rfl, _, rfl, _, _, rfl, rfl, _, rfl, ?_⟩
          have := hc.x0 i
          rw [decide_eq_false (show ¬ (x.getD i 0 < 0) by omega)]
          exact iteF (kn H3' (Le.refl trivial) rfl rfl)
        intro H2 le2 eM
        rw [cut_no, filter_no (fun _ _ => rfl)] at eM
        refine ⟨Nat.zero_le _, fun q nq => ?_⟩
        have sq := same_new (o := .lst []) nq
        have s2 := (s1.trans le2.no).trans sq
        refine neD_nil (ns := []) (.inl (.inl (sq _ _ eM))) (.inl (.inl upd_same)) ⟨_, rfl, iteF ?_⟩
        refine ⟨.ref D, rfl, D, _, _, _, rfl, rfl, Same.sqt s2 td, at1, D1, x, rfl, .inr (Same.sqt s2 e1), rfl, _, rfl, ?_⟩
        have xs : x.sum ≠ 0 := by
          rw [sum_list, hc.xl]
          exact Int.ne_of_gt hc.pos
        rw [decide_eq_false (show ¬ (V.int x.sum = V.int 0) from fun z => xs (V.int.inj z))]
        refine iteF ?_
        have bx : ∀ j, (x.getD j 0).natAbs < 2 ^ 4101 := fun j => Nat.lt_trans (hc.xb j) pow_step
        have bz : ∀ j, (z.getD j 0).natAbs < 2 ^ 4101 := fun j => Nat.lt_trans (hc.zb j) pow_step
        have cR : ∀ i j, (cell R i j).natAbs < 2 ^ 4101 := fun i j => Nat.lt_trans (bR i j) pow_100
        have cE : ∀ i j, (cell EE i j).natAbs < 2 ^ 4101 := fun i j => Nat.lt_trans (bE i j) pow_100
        refine ⟨.ref a, rfl, .ref D, rfl, D, _, _, _, rfl, rfl, Same.sqt s2 td, at1, _, rfl, true, a, D1, R, x, size, rfl, hR.mono s2, SqK.t (Same.sqt s2 e1), hc.xl, by omega, by omega, lR, bx, cR, fun S H4 nS s4' eS => ?_⟩
        have s4 := s2.trans s4'
        have at2 : atI [strV "cancel", .ref D1, .ref D2] 2 = some (.ref D2) := atI_nat (j := 2) rfl
        refine ⟨.bl true, rfl, true, rfl, iteT ⟨.ref D, rfl, D, _, _, _, rfl, rfl, Same.sqt s4 td, at2, .ref e, rfl, e, _, rfl, .inl (s4.seq hE1), D2, z, _, rfl, Same.sqt s4 e2', by have := hc.zl; omega, fun H5 s5' => ⟨_, rfl, ?_⟩⟩⟩
        rw [show decide ((z.length : Int) = (((es.map V.ref).length : Nat) : Int)) = true from decide_eq_true (by rw [List.length_map, e2, hc.zl])]
        have s5 := s4.trans s5'
        refine iteF ⟨_, rfl, .ref e, rfl, .ref D, rfl, D, _, _, _, rfl, rfl, Same.sqt s5 td, at2, _, rfl, true, e, D2, EE, z, size, rfl, hE.mono s5, SqK.t (Same.sqt s5 e2'), hc.zl, by omega, by omega, lE, bz, cE, fun S2 H6 nS2 s6' eS2 => ?_⟩
        have eS6 := s6' _ _ (s5' _ _ eS)
        refine ⟨S, S2, _, _, rfl, .inl (.inl eS6), .inl (.inl eS2), ?_⟩
        let fs : Nat → Int := fun j => (sumsOf R x size).getD j 0 + (sumsOf EE z size).getD j 0
        refine fun M4 nM4 => lc_ints (h := Hid.no) (walk_zip (n := size) (xs := (sumsOf R x size).map V.int) (ys := (sumsOf EE z size).map V.int) (by rw [List.length_map, List.length_map, sums_len, sums_len]; omega)) nM4 trivial (by omega) fs (fun H' s' => (by rw [cut_no, cut_no] at s'; exact ⟨s'.seq (.inl (.inl eS6)), s'.seq (.inl (.inl eS2))⟩)) ?_ ?_
        · rintro j y H7 H7' hj le7 ⟨zs, hD⟩ ⟨T2, x1, x2, rfl, nT, rfl, w1, w2⟩ Q' kk
          have q1 := int_nth w1
          have q2 := int_nth w2
          subst q1 q2
          exact ⟨T2, _, rfl, .inl (.inl upd_same), rfl, _, _, rfl, _, _, rfl, rfl, rfl, _, rfl, _, rfl, _, _, rfl, rfl, kk _ (Le.new trivial nT) (upd_ne (ne_of_none hD nT))⟩
        intro H8 le8 e8
        rw [cut_no] at e8
        have s8 := (s5.trans s6').trans le8.no
        have zero : ∀ i, i < size → ((List.range size).map fs).getD i 0 = 0 := fun i hi => by
          rw [Sx.getD_map hi]
          show (sumsOf R x size).getD i 0 + (sumsOf EE z size).getD i 0 = 0
          rw [sums_at hi, sums_at hi]
          exact hc.eq i hi
        refine ⟨_, rfl, M4, rfl, ⟨_, .inl (.inl e8)⟩, ?_⟩
        refine fun M3 nM3 => lc_sel (h := Hid.no) (walk_list (K := K) (a := M4) (xs := ((List.range size).map fs).map V.int)) nM3 trivial (by simp [List.length_map]; omega) (fun _ => false) (fun _ => .non) (fun H' s' => (by rw [cut_no, cut_no] at s'; exact s'.seq (.inl (.inl e8)))) ?_ ?_
        · rintro i y H5 H5' hi le5 _ ⟨rfl, hx⟩ Q' N kq kn
          have ey := int_nth hx
          subst ey
          refine ⟨rfl, _, rfl, rfl, _, rfl, ?_⟩
          have hi2 : i < size := by simpa [List.length_map] using hi
          rw [zero i hi2]
          exact iteF (kn H5' (Le.refl trivial) rfl rfl)
        intro H6 le6 e6
        rw [cut_no, filter_no (fun _ _ => rfl)] at e6
        refine ⟨Nat.zero_le _, fun q2 nq2 => ?_⟩
        have sq2 := same_new (o := .lst []) nq2
        exact eqD_nil (ns := []) (.inl (.inl (sq2 _ _ e6))) (.inl (.inl upd_same)) (k _ ((s8.trans le6.no).trans sq2))
      · refine ⟨_, rfl, D, _, _, _, 2, rfl, td, _, rfl, ?_⟩
        rw [decide_eq_false not_word, Bool.and_false]
        refine iteF ⟨.ref D, rfl, .bl false, rfl, false, rfl, iteF ⟨D, _, _, _, 2, rfl, td, _, rfl, iteF ?_⟩⟩
        refine ⟨.ref D, rfl, D, _, _, _, rfl, rfl, td, at1, .ref a, rfl, a, _, rfl, .inl hA, D1, x, _, rfl, e1, by omega, fun H1 s1 => ⟨_, rfl, ?_⟩⟩
        rw [show decide ((x.length : Int) = (((as.map V.ref).length : Nat) : Int)) = true from decide_eq_true (by rw [List.length_map, a2, hc.xl])]
        refine iteF ?_
        refine ⟨.ref D, rfl, D, _, _, _, rfl, rfl, Same.sqt s1 td, at1, D1, rfl, ⟨_, Same.sqt s1 e1⟩, ?_⟩
        refine fun M nM => lc_sel (h := Hid.no) (walk_tup (K := K) (a := D1) (xs := x.map V.int)) nM trivial (by simp; omega) (fun _ => false) (fun _ => .non) (fun H' s' => (by rw [cut_no, cut_no] at s'; exact Same.sqt (s1.trans s') e1)) ?_ ?_
        · rintro i y H3 H3' hi le3 _ ⟨rfl, hx⟩ Q' N kq kn
          have ey := int_nth hx
          subst ey
          refine ⟨rfl, _, rfl, _, _, rfl, rfl, _, rfl, ?_⟩
          have := hc.x0 i
          rw [decide_eq_false (show ¬ (x.getD i 0 < 0) by omega)]
          exact iteF (kn H3' (Le.refl trivial) rfl rfl)
        intro H2 le2 eM
        rw [cut_no, filter_no (fun _ _ => rfl)] at eM
        refine ⟨Nat.zero_le _, fun q nq => ?_⟩
        have sq := same_new (o := .lst []) nq
        have s2 := (s1.trans le2.no).trans sq
        refine neD_nil (ns := []) (.inl (.inl (sq _ _ eM))) (.inl (.inl upd_same)) ⟨_, rfl, iteF ?_⟩
        refine ⟨.ref D, rfl, D, _, _, _, rfl, rfl, Same.sqt s2 td, at1, D1, x, rfl, .inr (Same.sqt s2 e1), rfl, _, rfl, ?_⟩
        have xs : x.sum ≠ 0 := by
          rw [sum_list, hc.xl]
          exact Int.ne_of_gt hc.pos
        rw [decide_eq_false (show ¬ (V.int x.sum = V.int 0) from fun z => xs (V.int.inj z))]
        refine iteF ?_
        have bx : ∀ j, (x.getD j 0).natAbs < 2 ^ 4101 := fun j => Nat.lt_trans (hc.xb j) pow_step
        have bz : ∀ j, (z.getD j 0).natAbs < 2 ^ 4101 := fun j => Nat.lt_trans (hc.zb j) pow_step
        have cR : ∀ i j, (cell R i j).natAbs < 2 ^ 4101 := fun i j => Nat.lt_trans (bR i j) pow_100
        refine ⟨.ref a, rfl, .ref D, rfl, D, _, _, _, rfl, rfl, Same.sqt s2 td, at1, _, rfl, true, a, D1, R, x, size, rfl, hR.mono s2, SqK.t (Same.sqt s2 e1), hc.xl, by omega, by omega, lR, bx, cR, fun S H4 nS s4' eS => ?_⟩
        have s4 := s2.trans s4'
        have zero : ∀ i, i < size → (sumsOf R x size).getD i 0 = 0 := fun i hi => by
          rw [sums_at hi]
          have h1 := hc.eq i hi
          rw [show Sx.sm ([] : List (List Int)).length (fun j => z.getD j 0 * cell [] j i) = 0 from rfl, Int.add_zero] at h1
          exact h1
        refine ⟨.bl false, rfl, false, rfl, iteF ⟨_, rfl, S, rfl, ⟨_, .inl (.inl eS)⟩, ?_⟩⟩
        refine fun M3 nM3 => lc_sel (h := Hid.no) (walk_list (K := K) (a := S) (xs := (sumsOf R x size).map V.int)) nM3 trivial (by simp [sums_len]; omega) (fun _ => false) (fun _ => .non) (fun H' s' => (by rw [cut_no, cut_no] at s'; exact s'.seq (.inl (.inl eS)))) ?_ ?_
        · rintro i y H5 H5' hi le5 _ ⟨rfl, hx⟩ Q' N kq kn
          have ey := int_nth hx
          subst ey
          refine ⟨rfl, _, rfl, rfl, _, rfl, ?_⟩
          have hi2 : i < size := by simpa [sums_len] using hi
          rw [zero i hi2]
          exact iteF (kn H5' (Le.refl trivial) rfl rfl)
        intro H6 le6 e6
        rw [cut_no, filter_no (fun _ _ => rfl)] at e6
        refine ⟨Nat.zero_le _, fun q2 nq2 => ?_⟩
        have sq2 := same_new (o := .lst []) nq2
        exact eqD_nil (ns := []) (.inl (.inl (sq2 _ _ e6))) (.inl (.inl upd_same)) (k _ ((s4.trans le6.no).trans sq2))
end
end Ls
end
section
set_option maxRecDepth 100000
set_option maxHeartbeats 4000000
namespace Ls
open PySem PySem.Spec PyProof.Rows L2
open Sx (cell)
section
variable {K : PySem.W.Frag} {h : Hid} {H H' : Hp}
theorem Le.keep {p : Addr} {o : HO} (l : Le h H H') (np : p ∉ h.T) (e : H p = some o) : H' p = some o := cut_le (l.s p o (by rw [cut_ne np]; exact e))
theorem sqt_cons {T : List Addr} {D b : Addr} {xs zs : List V} (s : SqT K (cut T H) b xs) (hD : H D = some (.lst zs)) : SqT K (cut (D :: T) H) b xs := by
  rcases s with (e | ⟨o, e⟩) | e
  · exact .inl (.inl (cut_both (fun z => by have := cut_le e; rw [z, hD] at this; cases this) e))
  · exact .inl (.inr ⟨o, cut_both (fun z => by have := cut_le e; rw [z, hD] at this; cases this) e⟩)
  · exact .inr e
def GoodR (B size : Nat) (r : List Int) : Prop := r.length = size ∧ ∀ j, (r.getD j 0).natAbs ≤ B
theorem GoodR.mono {B C size : Nat} {r : List Int} (g : GoodR B size r) (h : B ≤ C) : GoodR C size r := ⟨g.1, fun j => Nat.le_trans (g.2 j) h⟩
theorem goodR_of {B size : Nat} {r : List Int} (h1 : r.length = size) (h2 : ∀ z ∈ r, z.natAbs ≤ B) : GoodR B size r := by
  refine ⟨h1, fun j => ?_⟩
  rw [List.getD_eq_getElem?_getD]
  cases q : r[j]? with
  | none => show (0 : Int).natAbs ≤ B; simp
  | some z => exact h2 z (List.mem_of_getElem? q)
theorem ints_ys {n B : Nat} {ys : List V} (hl : ys.length = n) (g : ∀ (i : Nat) (y : V), ys[i]? = some y → ∃ z : Int, y = .int z ∧ z.natAbs ≤ B) : ∃ row : List Int, ys = row.map V.int ∧ GoodR B n row := by
  let num : V → Int := fun v => match v with | .int z => z | _ => 0
  have e1 : ys = (ys.map num).map V.int := by
    refine List.ext_getElem (by simp) fun i h1 h2 => ?_
    obtain ⟨z, ez, _⟩ := g i ys[i] (List.getElem?_eq_getElem h1)
    simp [num, ez]
  refine ⟨ys.map num, e1, goodR_of (by simp [hl]) fun z hz => ?_⟩
  obtain ⟨y, hy, rfl⟩ := List.mem_map.mp hz
  obtain ⟨i, hi, e⟩ := List.getElem_of_mem hy
  obtain ⟨z, ez, hb⟩ := g i y (by rw [List.getElem?_eq_getElem hi, e])
  rw [ez]; exact hb
theorem pairs_ys {B size : Nat} : ∀ {ys : List V}, (∀ (i : Nat) (y : V), ys[i]? = some y → ∃ b, y = .ref b ∧ ∃ row, GoodR B size row ∧ SqT K H b (row.map V.int)) → ∃ (as : List Addr) (R : List (List Int)), ys = as.map V.ref ∧ as.length = R.length ∧ (∀ r ∈ R, GoodR B size r) ∧
    ∀ (i : Nat) (b : Addr) (row : List Int), as[i]? = some b → R[i]? = some row → SqT K H b (row.map V.int)
  | [], _ => ⟨[], [], rfl, rfl, fun r hr => by simp at hr, fun i b row e _ => by simp at e⟩
  | y :: ys, g => by
    obtain ⟨as, R, e1, e2, e3, e4⟩ := pairs_ys (ys := ys) fun i y hy => g (i + 1) y (by simpa using hy)
    obtain ⟨b, eb, row, hg, hs⟩ := g 0 y rfl
    refine ⟨b :: as, row :: R, by rw [eb, e1]; rfl, by simp [e2], fun r hr => ?_, fun i b' row' q1 q2 => ?_⟩
    · rcases List.mem_cons.mp hr with q | q
      · rw [q]; exact hg
      · exact e3 r q
    · cases i with
      | zero =>
        simp at q1 q2
        subst q1 q2
        exact hs
      | succ i => exact e4 i b' row' (by simpa using q1) (by simpa using q2)
/-- the rows that a comprehension made -/
theorem rows_made {B size : Nat} {D : Addr} {ys : List V} (e : cut h.T H D = some (.lst ys)) (g : ∀ (i : Nat) (y : V), ys[i]? = some y → ∃ b, y = .ref b ∧ ∃ row, GoodR B size row ∧ SqT K (cut (D :: h.T) H) b (row.map V.int)) : ∃ R, R.length = ys.length ∧ (∀ r ∈ R, GoodR B size r) ∧ RowsQ K (cut h.T H) D R := by
  obtain ⟨as, R, e1, e2, e3, e4⟩ := pairs_ys g
  subst e1
  exact ⟨R, by rw [List.length_map]; exact e2.symm, e3, as, .inl (.inl e), e2, fun i b row q1 q2 => Same.sqt cut_sub (e4 i b row q1 q2)⟩
end
end Ls
end
section
set_option maxRecDepth 100000
set_option maxHeartbeats 4000000
namespace Ls
open PySem PySem.Spec PyProof.Rows L2
open Sx (cell)
section
variable {P : Program} {w : World} {K : PySem.W.Frag} {mg : Str → Option Value} {base : Heap} {C : Addr}
abbrev bigB : Nat := 10 ^ 30
theorem cut_one (xs : List V) : cutV xs (some 1) none = xs.drop 1 := by
  unfold cutV
  have e : HT.sIx xs.length 0 (some 1) = min 1 xs.length := HT.sIx_nat xs.length 0 1
  rw [e, HT.sIx_none]
  cases xs with
  | nil => rfl
  | cons x r => simp
theorem rep_ones (n : Nat) : (List.replicate n [V.int 1]).flatten = (List.replicate n (1 : Int)).map V.int := by
  induction n with
  | zero => rfl
  | succ n ih => rw [List.replicate_succ, List.flatten_cons, ih, List.replicate_succ]; rfl
def spRows (K : PySem.W.Frag) : Sp := fun vs H Q _ => ∃ (t l c : Addr) (many size : Nat), vs = [.ref t, .int (many : Int), .int (size : Int)] ∧ many ≤ 100 ∧ size ≤ 20 ∧ TapeAt t l c H ∧
  ∀ (D : Addr) (R : List (List Int)) H', H D = none → R.length = many → (∀ r ∈ R, GoodR bigB size r) → RowsQ K (cut (tp t l c).T H') D R → Le (tp t l c) H H' → Q (.ref D) H'
theorem ok_rows {f : Addr} {fd : FuncData} (F : Fun K "_law_rows" "_law_rows" s_law_rows f fd) (T : Bi mg) (D_law_draw : Df P w K mg base 2 "_law_draw" ["tape", "size"] spDraw) (D_law_pick : Df P w K mg base 3 "_law_pick" ["tape", "several"] (spPick K))
    (D_law_sums : Df P w K mg base 1 "_law_sums" ["rows", "counts", "size"] (spSums K)) (D_law_dot : Df P w K mg base 1 "_law_dot" ["row", "numbers"] (spDot K)) (D_law_shuffled : Df P w K mg base 3 "_law_shuffled" ["tape", "several"] (spShuffled K)) : FnOk P w K mg base CX0 4 f fd ["tape", "many", "size"] (spRows K) := by
  refine F.ok sc_law_rows (fun vs H Q E h => ?_) (fun cdv A outer s H vs Q E hr h => ?_)
  · obtain ⟨t, l, c, many, size, rfl, _⟩ := h
    rfl
  · obtain ⟨t, l, c, many, size, rfl, hm, hs, tape, k⟩ := h
    refine ⟨_, (pss_cons (ps_asg (pe_tup (pa_cons (pe_df D_law_draw (hr.mono (by decide)) (by rfl) (pa_cons (pv 0) (pa_cons pe_int pa_nil))) (pa_cons (pe_op op_sub (pe_op op_pow pe_int pe_int) pe_int) pa_nil))) (kg_tup K (pgs_cons (pg_name (i := 4) sc_law_rows.nd rfl (Or.inl rfl)) (pgs_cons (pg_name (i := 5) sc_law_rows.nd rfl (by first | exact Or.inl rfl | exact Or.inr rfl)) pgs_nil))))
      (pss_cons (ps_setLc (i := 3) (own := [("row", 8)]) (g := gName 8) (tt := tYes) rfl sc_law_rows.nd rfl rfl (sw_true rfl rfl rfl (by decide +kernel)) (pi_range1 (by rfl) T.b_range (pa_cons (pv 1) pa_nil)) (blkOk_by (own := [("row", 8)]) (N := ["tape", "many", "size", "found", "way", "top", "sums", "line", "row", "place", "item"]) (sc := defScope s_law_rows) (by decide +kernel)) (fun _ _ _ _ _ => (pg_name (i := 8) sc_law_rows.nd rfl (Or.inl rfl))) (fun _ _ _ _ _ => pts_nil) (fun _ _ _ _ _ => (pe_callTy (ktuple K) (by rfl) T.b_tuple (by decide +kernel) (pa_cons (pe_lc (own := [("place", 9)]) (g := gName 9) (tt := tYes) rfl sc_law_rows.nd (pi_range1 (by rfl) T.b_range (pa_cons (pv 2) pa_nil)) (blkOk_by (own := [("place", 9)]) (N := ["tape", "many", "size", "found", "way", "top", "sums", "line", "row", "place", "item"]) (sc := relS _ (defScope s_law_rows)) (by decide +kernel)) (fun _ _ _ _ _ => (pg_name (i := 9) sc_law_rows.nd rfl (Or.inl rfl))) (fun _ _ _ _ _ => pts_nil) (fun _ _ _ _ _ => (pe_op op_sub (pe_df D_law_draw (hr.mono (by decide)) (by rfl) (pa_cons (pv 0) (pa_cons pe_int pa_nil))) pe_int))) pa_nil))))
      (pss_cons (ps_if (pt_cmpR op_eq (pv 4) pe_int (nomark _)) (pss_one (ps_setLc (i := 3) (own := [("row", 8)]) (g := gName 8) (tt := tYes) rfl sc_law_rows.nd rfl rfl (sw_true rfl rfl rfl (by decide +kernel)) (pi_range1 (by rfl) T.b_range (pa_cons (pv 1) pa_nil)) (blkOk_by (own := [("row", 8)]) (N := ["tape", "many", "size", "found", "way", "top", "sums", "line", "row", "place", "item"]) (sc := defScope s_law_rows) (by decide +kernel)) (fun _ _ _ _ _ => (pg_name (i := 8) sc_law_rows.nd rfl (Or.inl rfl))) (fun _ _ _ _ _ => pts_nil) (fun _ _ _ _ _ => (pe_callTy (ktuple K) (by rfl) T.b_tuple (by decide +kernel) (pa_cons (pe_lc (own := [("place", 9)]) (g := gName 9) (tt := tYes) rfl sc_law_rows.nd (pi_range1 (by rfl) T.b_range (pa_cons (pv 2) pa_nil)) (blkOk_by (own := [("place", 9)]) (N := ["tape", "many", "size", "found", "way", "top", "sums", "line", "row", "place", "item"]) (sc := relS _ (defScope s_law_rows)) (by decide +kernel)) (fun _ _ _ _ _ => (pg_name (i := 9) sc_law_rows.nd rfl (Or.inl rfl))) (fun _ _ _ _ _ => pts_nil) (fun _ _ _ _ _ => (pe_df D_law_pick (hr.mono (by decide)) (by rfl) (pa_cons (pv 0) (pa_cons (pe_lst (pa_cons pe_int (pa_cons pe_int (pa_cons (pe_un un_neg pe_int) (pa_cons (pv 5) (pa_cons (pe_op op_sub pe_int (pv 5)) (pa_cons (pe_op op_pow pe_int pe_int) pa_nil))))))) pa_nil))))) pa_nil))))) pss_nil)
      (pss_cons (ps_if (PW.pt (pw_and (pt_cmpR op_eq (pv 4) pe_int (nomark _)) (pw_and1 (pt_cmpR op_gt (pv 1) pe_int (nomark _))))) (pss_cons (ps_set (i := 6) sc_law_rows.nd rfl (Or.inl rfl) (pe_df D_law_sums (hr.mono (by decide)) (by rfl) (pa_cons (pe_slice (kslL K) (pv 3) (po_some pe_int) po_none) (pa_cons (pe_op op_rep (pe_lst (pa_cons pe_int pa_nil)) (pe_op op_sub (pv 1) pe_int)) (pa_cons (pv 2) pa_nil)))))
      (pss_one (ps_set (i := 3) sc_law_rows.nd rfl (Or.inl rfl) (pe_op op_cat (pe_lst (pa_cons (pe_callTy (ktuple K) (by rfl) T.b_tuple (by decide +kernel) (pa_cons (pe_lc (own := [("item", 10)]) (g := gName 10) (tt := tYes) rfl sc_law_rows.nd (kfor_list K (pv 6)) (blkOk_by (own := [("item", 10)]) (N := ["tape", "many", "size", "found", "way", "top", "sums", "line", "row", "place", "item"]) (sc := defScope s_law_rows) (by decide +kernel)) (fun _ _ _ _ _ => (pg_name (i := 10) sc_law_rows.nd rfl (Or.inl rfl))) (fun _ _ _ _ _ => pts_nil) (fun _ _ _ _ _ => (pe_op op_sub pe_int (pv 10)))) pa_nil)) pa_nil)) (pe_slice (kslL K) (pv 3) (po_some pe_int) po_none))))) pss_nil)
      (pss_cons (ps_if (pt_cmpR op_eq (pv 4) pe_int (nomark _)) (pss_cons (ps_set (i := 7) sc_law_rows.nd rfl (by first | exact Or.inl rfl | exact Or.inr rfl) (pe_lc (own := [("place", 9)]) (g := gName 9) (tt := tYes) rfl sc_law_rows.nd (pi_range1 (by rfl) T.b_range (pa_cons (pv 2) pa_nil)) (blkOk_by (own := [("place", 9)]) (N := ["tape", "many", "size", "found", "way", "top", "sums", "line", "row", "place", "item"]) (sc := defScope s_law_rows) (by decide +kernel)) (fun _ _ _ _ _ => (pg_name (i := 9) sc_law_rows.nd rfl (Or.inl rfl))) (fun _ _ _ _ _ => pts_nil) (fun _ _ _ _ _ => (pe_op op_sub (pe_df D_law_draw (hr.mono (by decide)) (by rfl) (pa_cons (pv 0) (pa_cons pe_int pa_nil))) pe_int))))
      (pss_one (ps_setLc (i := 3) (own := [("row", 8)]) (g := gName 8) (tt := tYes) rfl sc_law_rows.nd rfl rfl (sw_true rfl rfl rfl (by decide +kernel)) (kfor_list K (pv 3)) (blkOk_by (own := [("row", 8)]) (N := ["tape", "many", "size", "found", "way", "top", "sums", "line", "row", "place", "item"]) (sc := defScope s_law_rows) (by decide +kernel)) (fun _ _ _ _ _ => (pg_name (i := 8) sc_law_rows.nd rfl (Or.inl rfl))) (fun _ _ _ _ _ => pts_nil) (fun _ _ _ _ _ => (pe_ifExp (pt_cmpR op_lt (pe_df D_law_dot (hr.mono (by decide)) (by rfl) (pa_cons (pv 8) (pa_cons (pv 7) pa_nil))) pe_int (nomark _)) (pv 8) (pe_callTy (ktuple K) (by rfl) T.b_tuple (by decide +kernel) (pa_cons (pe_lc (own := [("item", 10)]) (g := gName 10) (tt := tYes) rfl sc_law_rows.nd (kfor_tup K (pv 8)) (blkOk_by (own := [("item", 10)]) (N := ["tape", "many", "size", "found", "way", "top", "sums", "line", "row", "place", "item"]) (sc := relS _ (defScope s_law_rows)) (by decide +kernel)) (fun _ _ _ _ _ => (pg_name (i := 10) sc_law_rows.nd rfl (Or.inl rfl))) (fun _ _ _ _ _ => pts_nil) (fun _ _ _ _ _ => (pe_op op_sub pe_int (pv 10)))) pa_nil))))))) pss_nil)
      (pss_one (ps_ret (pe_df D_law_shuffled (hr.mono (by decide)) (by rfl) (pa_cons (pv 0) (pa_cons (pv 3) pa_nil)))))))))), ?_⟩
    refine ⟨.ref t, rfl, t, l, c, 4, rfl, by decide, by decide, tape, fun way H1 w0 w1 le1 => ?_⟩
    refine ⟨_, _, rfl, rfl, ⟨by decide, by decide, by decide⟩, _, _, rfl, rfl, by show 2 ≤ sizeLine; decide, fun p np => ?_⟩
    refine ⟨p, _, rfl, .inl (.inl upd_same), rfl, _, _, rfl, _, _, rfl, rfl, ?_⟩
    have le2 := le1.trans (Le.new (o := .tup [.int way, .int ((10 : Int) ^ (30 : Int).toNat - 1)]) le1.g np)
    refine ⟨_, rfl, _, rfl, by omega, by omega, ?_⟩
    rw [Int.toNat_natCast]
    refine fun Fo nF => lc_all (h := tp t l c) (walk_range (lo := 0) (n := many)) nF le2.g (by omega) (fun i v H => ∃ b, v = .ref b ∧ ∃ row, GoodR 2 size row ∧ SqT K H b (row.map V.int)) (fun i v H1 H2 s' ⟨b, e, row, g, q⟩ => ⟨b, e, row, g, Same.sqt s' q⟩) (fun _ _ => trivial) ?_ ?_
    · rintro i x H3 H3' hi le3 ⟨zs, hD⟩ ⟨rfl, rfl⟩ Q' kk
      have nFT : Fo ∉ (tp t l c).T := Hid.nin (h := tp t l c) le2.g nF
      refine ⟨rfl, _, rfl, _, rfl, by omega, by omega, ?_⟩
      rw [Int.toNat_natCast]
      refine fun D2 nD2 => lc_all (h := tp t l c) (walk_range (lo := 0) (n := size)) nD2 le3.g (by omega) (fun j v _ => ∃ z : Int, v = .int z ∧ z.natAbs ≤ 2) (fun _ _ _ _ _ q => q) (fun _ _ => trivial) ?_ ?_
      · rintro j y H5 H5' hj le5 ⟨zs2, hD2⟩ ⟨rfl, rfl⟩ Q2 kk2
        have nDT : D2 ∉ (tp t l c).T := Hid.nin (h := tp t l c) le3.g nD2
        refine ⟨rfl, .ref t, rfl, t, l, c, 5, rfl, by decide, by decide, le5.g, fun v H6 v0 v1 le6 => ⟨_, _, rfl, rfl, ?_⟩⟩
        exact kk2 _ H6 le6 ((le6.keep nDT hD2).trans hD2.symm) ⟨_, rfl, by omega⟩
      intro H6 ys le6 e6 ly hy
      obtain ⟨row, rfl, gr⟩ := ints_ys ly hy
      refine ⟨D2, _, rfl, .inl ⟨.inl (.inl (cut_le e6)), fun q nq => ?_⟩⟩
      have hD6 := le6.keep nFT hD
      have nqF : q ≠ Fo := fun z => by rw [z, hD6] at nq; cases nq
      have leq := Le.new (o := .tup (row.map V.int)) le6.g nq
      refine kk (.ref q) _ (le6.trans leq) ((upd_ne (Ne.symm nqF)).trans (hD6.trans hD.symm)) ⟨q, rfl, row, gr, .inl (.inl ?_)⟩
      rw [cut_ne (by
        intro z
        rcases List.mem_cons.mp z with z | z
        · exact nqF z
        · exact Hid.nin (h := tp t l c) le6.g nq z), upd_same]
    intro H3 ys le3 e3 ly hys
    obtain ⟨R0, lR0, gR0, hR0⟩ := rows_made (h := tp t l c) e3 hys
    rw [ly] at lR0
    have le4 := le2.trans le3
    have nF0 : H Fo = none := le2.free tape nF
    have nFT : Fo ∉ (tp t l c).T := Hid.nin (h := tp t l c) tape nF0
    have hw : way = 0 ∨ way = 1 ∨ way = 2 ∨ way = 3 := by omega
    rcases hw with rfl | rfl | rfl | rfl
    · refine ⟨_, rfl, rfl, _, rfl, iteF ⟨_, rfl, rfl, _, rfl, iteF ⟨_, rfl, rfl, _, rfl, iteF ?_⟩⟩⟩
      refine ⟨.ref t, rfl, _, rfl, t, l, c, Fo, R0, rfl, hR0, by omega, le4.g, fun D R' H' nD lR hR' rq le' => ?_⟩
      exact k D R' H' (le4.free tape nD) (by omega) (fun r hr => (gR0 r (hR' r hr)).mono (by decide)) rq (le4.trans le')
    · refine ⟨_, rfl, rfl, _, rfl, iteT ⟨_, rfl, _, rfl, by omega, by omega, ?_⟩⟩
      rw [Int.toNat_natCast]
      refine fun F2 nF2 => lc_all (h := tp t l c) (walk_range (lo := 0) (n := many)) nF2 le4.g (by omega) (fun i v H => ∃ b, v = .ref b ∧ ∃ row, GoodR bigB size row ∧ SqT K H b (row.map V.int)) (fun i v H1 H2 s' ⟨b, e, row, g, q⟩ => ⟨b, e, row, g, Same.sqt s' q⟩) (fun _ _ => trivial) ?_ ?_
      · rintro i x H3' H4' hi le5 ⟨zs, hD⟩ ⟨rfl, rfl⟩ Q' kk
        have nF2T : F2 ∉ (tp t l c).T := Hid.nin (h := tp t l c) le4.g nF2
        refine ⟨rfl, _, rfl, _, rfl, by omega, by omega, ?_⟩
        rw [Int.toNat_natCast]
        refine fun D2 nD2 => lc_all (h := tp t l c) (walk_range (lo := 0) (n := size)) nD2 le5.g (by omega) (fun j v _ => ∃ z : Int, v = .int z ∧ z.natAbs ≤ bigB) (fun _ _ _ _ _ q => q) (fun _ _ => trivial) ?_ ?_
        · rintro j y H5 H5' hj le6 ⟨zs2, hD2⟩ ⟨rfl, rfl⟩ Q2 kk2
          have nDT : D2 ∉ (tp t l c).T := Hid.nin (h := tp t l c) le5.g nD2
          refine ⟨rfl, .ref t, rfl, 1, rfl, _, rfl, _, rfl, _, _, rfl, rfl, _, _, rfl, rfl, ⟨by decide, by decide, by decide⟩, by show 6 ≤ sizeLine; decide, fun q nq => ?_⟩
          have leq := Le.new (o := .lst [.int 0, .int 1, .int (-1), .int ((10 : Int) ^ (30 : Int).toNat - 1), .int (0 - ((10 : Int) ^ (30 : Int).toNat - 1)), .int ((10 : Int) ^ (29 : Int).toNat)]) le6.g nq
          have nqD : D2 ≠ q := ne_of_none hD2 nq
          refine ⟨t, l, c, q, [.int 0, .int 1, .int (-1), .int ((10 : Int) ^ (30 : Int).toNat - 1), .int (0 - ((10 : Int) ^ (30 : Int).toNat - 1)), .int ((10 : Int) ^ (29 : Int).toNat)], rfl, .inl (.inl (c_new (h := tp t l c) le6.g nq)), by simp, by decide, leq.g, fun j2 v H6 e6 le7 => ?_⟩
          have leT := leq.trans le7
          refine kk2 _ H6 leT ((leT.keep nDT hD2).trans hD2.symm) ?_
          have hv := List.mem_of_getElem? e6
          simp at hv
          rcases hv with z | z | z | z | z | z
          · exact ⟨_, z, by decide⟩
          · exact ⟨_, z, by decide⟩
          · exact ⟨_, z, by decide⟩
          · exact ⟨_, z, by decide⟩
          · exact ⟨_, z, by decide⟩
          · exact ⟨_, z, by decide⟩
        intro H6 ys2 le6 e6 ly2 hy
        obtain ⟨row, rfl, gr⟩ := ints_ys ly2 hy
        refine ⟨D2, _, rfl, .inl ⟨.inl (.inl (cut_le e6)), fun q nq => ?_⟩⟩
        have hD6 := le6.keep nF2T hD
        have nqF : q ≠ F2 := fun z => by rw [z, hD6] at nq; cases nq
        have leq := Le.new (o := .tup (row.map V.int)) le6.g nq
        refine kk (.ref q) _ (le6.trans leq) ((upd_ne (Ne.symm nqF)).trans (hD6.trans hD.symm)) ⟨q, rfl, row, gr, .inl (.inl ?_)⟩
        rw [cut_ne (by
          intro z
          rcases List.mem_cons.mp z with z | z
          · exact nqF z
          · exact Hid.nin (h := tp t l c) le6.g nq z), upd_same]
      intro H5 ys5 le5 e5 ly5 hys5
      obtain ⟨R5, lR5, gR5, hR5⟩ := rows_made (h := tp t l c) e5 hys5
      rw [ly5] at lR5
      have le6 := le4.trans le5
      refine ⟨_, rfl, rfl, _, rfl, iteF ⟨_, rfl, rfl, _, rfl, iteF ?_⟩⟩
      refine ⟨.ref t, rfl, _, rfl, t, l, c, F2, R5, rfl, hR5, by omega, le6.g, fun D R' H' nD lR hR' rq le' => ?_⟩
      exact k D R' H' (le6.free tape nD) (by omega) (fun r hr => gR5 r (hR' r hr)) rq (le6.trans le')
    · refine ⟨_, rfl, rfl, _, rfl, iteF ⟨_, rfl, rfl, _, rfl, iteT ⟨_, rfl, _, _, rfl, rfl, _, rfl, ?_⟩⟩⟩
      by_cases c1 : (1 : Int) < (many : Int)
      · rw [decide_eq_true c1]
        obtain ⟨as, q1, q2, q3⟩ := id hR0
        have hFo : H3 Fo = some (.lst ys) := cut_le e3
        have eys : SqL K H3 Fo (as.map V.ref) := sql q1
        refine iteT ⟨_, rfl, _, rfl, Fo, _, rfl, eys, fun f1 nf1 => ⟨by show 1 ≤ sizeLine; decide, fun p1 np1 => ?_⟩⟩
        have la : Le (tp t l c) H3 (upd H3 f1 (.lst (cutV (as.map V.ref) (some 1) none))) := Le.new le4.g nf1
        have lb : Le (tp t l c) (upd H3 f1 (.lst (cutV (as.map V.ref) (some 1) none))) (upd (upd H3 f1 (.lst (cutV (as.map V.ref) (some 1) none))) p1 (.lst [.int 1])) := Le.new la.g np1
        have lab := la.trans lb
        refine ⟨_, rfl, _, _, rfl, rfl, p1, _, _, rfl, rfl, upd_same, by omega, by omega, by rw [sizeLine_eq]; show 1 * _ ≤ _; omega, fun p2 np2 => ⟨_, rfl, ?_⟩⟩
        have lc := Le.new (o := .lst (List.replicate ((many : Int) - 1).toNat [V.int 1]).flatten) lab.g np2
        have labc := lab.trans lc
        have ek : ((many : Int) - 1).toNat = many - 1 := by omega
        have hf1 : ∀ (o : HO), (cut (tp t l c).T (upd H3 f1 o)) f1 = some o := fun o => c_new (h := tp t l c) le4.g nf1
        have f1T : f1 ∉ (tp t l c).T := Hid.nin (h := tp t l c) le4.g nf1
        have rows1 : ∀ (H9 : Hp), Le (tp t l c) H3 H9 → ∀ f2, SqL K (cut (tp t l c).T H9) f2 (cutV (as.map V.ref) (some 1) none) → RowsQ K (cut (tp t l c).T H9) f2 (R0.drop 1) := fun H9 l9 f2 hf => by
          rw [cut_one, ← List.map_drop] at hf
          refine ⟨as.drop 1, hf, by simp [q2], fun i b row r1 r2 => Same.sqt l9.s (q3 (i + 1) b row ?_ ?_)⟩
          · rw [List.getElem?_drop, Nat.add_comm] at r1; exact r1
          · rw [List.getElem?_drop, Nat.add_comm] at r2; exact r2
        have d1l : (R0.drop 1).length = many - 1 := by rw [List.length_drop, lR0]
        have gd : ∀ i, i < (R0.drop 1).length → (Sx.row (R0.drop 1) i).length = size := fun i hi => by
          have : Sx.row (R0.drop 1) i ∈ R0 := List.mem_of_mem_drop (by unfold Sx.row; exact Sx.gd_mem hi)
          exact (gR0 _ this).1
        have bd : ∀ i j, (cell (R0.drop 1) i j).natAbs ≤ 2 := fun i j => by
          by_cases hi : i < (R0.drop 1).length
          · have : Sx.row (R0.drop 1) i ∈ R0 := List.mem_of_mem_drop (by unfold Sx.row; exact Sx.gd_mem hi)
            exact (gR0 _ this).2 j
          · have e0 : (R0.drop 1).getD i [] = [] := by rw [List.getD_eq_getElem?_getD, List.getElem?_eq_none (by omega)]; rfl
            unfold Sx.cell
            rw [e0]; simp
        have p41 : (2 : Nat) < 2 ^ 4101 := Nat.lt_of_lt_of_le (show 2 < 2 ^ 2 by decide) (Nat.pow_le_pow_right (by decide) (by decide))
        have one1 : ∀ j, ((List.replicate (many - 1) (1 : Int)).getD j 0).natAbs ≤ 1 := fun j => by
          rw [List.getD_eq_getElem?_getD]
          by_cases hj : j < many - 1
          · rw [List.getElem?_replicate, if_pos hj]; decide
          · rw [List.getElem?_replicate, if_neg hj]; decide
        refine ⟨false, f1, p2, R0.drop 1, List.replicate (many - 1) 1, size, rfl, (rows1 _ labc f1 ((lb.trans lc).s.seq (.inl (.inl (hf1 _))))).mono cut_same, SqK.l (.inl (.inl (by rw [upd_same, ek, rep_ones]))), by rw [List.length_replicate, d1l], by omega, by omega, gd, fun j => Nat.lt_of_le_of_lt (one1 j) (by omega), fun i j => Nat.lt_of_le_of_lt (bd i j) p41, fun S H7 nS s7 eS => ?_⟩
        have le7 := labc.trans (Le.of (h := tp t l c) labc.g s7)
        let sm := sumsOf (R0.drop 1) (List.replicate (many - 1) 1) size
        refine ⟨_, rfl, S, rfl, ⟨_, .inl (.inl eS)⟩, ?_⟩
        refine fun M nM => lc_ints (h := tp t l c) (walk_list (K := K) (a := S) (xs := sm.map V.int)) nM le7.g (by simp [sm, sums_len]; omega) (fun i => 0 - sm.getD i 0) (fun H' s' => sql (s'.seq (.inl (.inl (by
          rw [cut_ne (Hid.nin (h := tp t l c) labc.g nS)]; exact eS))))) ?_ ?_
        · rintro i x H8 H8' hi le8 _ ⟨rfl, hx⟩ Q' kk
          have ex := int_nth hx
          subst ex
          exact ⟨rfl, _, rfl, _, _, rfl, rfl, kk H8' (Le.refl le8.g) rfl⟩
        intro H8 le8 e8
        rw [show (sm.map V.int).length = size by simp [sm, sums_len]] at e8
        have ls8 := le7.trans le8
        refine ⟨M, _, rfl, .inl ⟨.inl (.inl (cut_le e8)), fun Tt nTt => ⟨by show 1 ≤ sizeLine; decide, fun q nq => ?_⟩⟩⟩
        let neg := (List.range size).map fun i => 0 - sm.getD i 0
        have l9 := ls8.trans (Le.new (o := .tup (neg.map V.int)) ls8.g nTt)
        have l10 := l9.trans (Le.new (o := .lst [.ref Tt]) l9.g nq)
        have eT10 : (cut (tp t l c).T (upd (upd H8 Tt (.tup (neg.map V.int))) q (.lst [.ref Tt]))) Tt = some (.tup (neg.map V.int)) := by
          have nTq : Tt ≠ q := fun z => by rw [← z, upd_same] at nq; cases nq
          rw [cut_ne (Hid.nin (h := tp t l c) ls8.g nTt), upd_ne nTq, upd_same]
        have hF10 : SqL K (upd (upd H8 Tt (.tup (neg.map V.int))) q (.lst [.ref Tt])) Fo (as.map V.ref) := sql (l10.s.seq q1)
        refine ⟨_, rfl, _, rfl, Fo, _, rfl, hF10, fun f2 nf2 => ?_⟩
        have l11 := l10.trans (Le.new (o := .lst (cutV (as.map V.ref) (some 1) none)) l10.g nf2)
        have nqf : q ≠ f2 := fun z => by rw [← z, upd_same] at nf2; cases nf2
        have lcut : (cutV (as.map V.ref) (some 1) none).length = many - 1 := by rw [cut_one, List.length_drop, List.length_map, q2, lR0]
        refine ⟨q, f2, [.ref Tt], _, rfl, rfl, (upd_ne nqf).trans upd_same, upd_same, by rw [lcut, sizeLine_eq]; show 1 + _ ≤ _; omega, fun g ng => ?_⟩
        have l12 := l11.trans (Le.new (o := .lst ([.ref Tt] ++ cutV (as.map V.ref) (some 1) none)) l11.g ng)
        have eg := c_new (h := tp t l c) (o := .lst ([V.ref Tt] ++ cutV (as.map V.ref) (some 1) none)) l11.g ng
        have eT12 := (Le.new (h := tp t l c) (o := .lst ([V.ref Tt] ++ cutV (as.map V.ref) (some 1) none)) l11.g ng).s _ _ ((Le.new (h := tp t l c) (o := .lst (cutV (as.map V.ref) (some 1) none)) l10.g nf2).s _ _ eT10)
        have rowsF : RowsQ K (cut (tp t l c).T (upd (upd (upd (upd H8 Tt (.tup (neg.map V.int))) q (.lst [.ref Tt])) f2 (.lst (cutV (as.map V.ref) (some 1) none))) g (.lst ([.ref Tt] ++ cutV (as.map V.ref) (some 1) none)))) g (neg :: R0.drop 1) := by
          refine ⟨Tt :: as.drop 1, .inl (.inl ?_), by simp [q2], fun i b row r1 r2 => ?_⟩
          · rw [eg, cut_one, ← List.map_drop]; rfl
          · cases i with
            | zero =>
              simp at r1 r2
              subst r1 r2
              exact .inl (.inl eT12)
            | succ i =>
              refine Same.sqt l12.s (q3 (i + 1) b row ?_ ?_)
              · have r1' : (as.drop 1)[i]? = some b := by simpa using r1
                rw [List.getElem?_drop, Nat.add_comm] at r1'; exact r1'
              · have r2' : (R0.drop 1)[i]? = some row := by simpa using r2
                rw [List.getElem?_drop, Nat.add_comm] at r2'; exact r2'
        have gneg : GoodR bigB size neg := by
          refine goodR_of (by simp [neg]) fun z hz => ?_
          obtain ⟨i, hi, rfl⟩ := List.mem_map.mp hz
          have hi2 := List.mem_range.mp hi
          have e1 : sm.getD i 0 = Sx.sm (R0.drop 1).length fun j => (List.replicate (many - 1) (1 : Int)).getD j 0 * cell (R0.drop 1) j i := sums_at hi2
          have e2 := Sx.Prob.sm_abs (n := (R0.drop 1).length) (X := 2) (f := fun j => (List.replicate (many - 1) (1 : Int)).getD j 0 * cell (R0.drop 1) j i) fun j hj => by
            rw [Int.natAbs_mul]
            have h1 := one1 j
            have h2 := bd j i
            have := Nat.mul_le_mul h1 h2
            omega
          rw [e1]
          rw [d1l] at e2 ⊢
          have : (many - 1) * 2 ≤ 200 := by omega
          have hb : (200 : Nat) ≤ bigB := by decide
          omega
        have le12 := le4.trans l12
        refine ⟨_, rfl, rfl, _, rfl, iteF ?_⟩
        refine ⟨.ref t, rfl, _, rfl, t, l, c, g, (neg :: R0.drop 1), rfl, rowsF, by simp [lR0]; omega, le12.g, fun D R' H' nD lR hR' rq le' => ?_⟩
        exact k D R' H' (le12.free tape nD) (by rw [lR]; simp [lR0]; omega) (fun r hr => by
          rcases List.mem_cons.mp (hR' r hr) with q | q
          · rw [q]; exact gneg
          · exact (gR0 r (List.mem_of_mem_drop q)).mono (by decide)) rq (le12.trans le')
      · rw [decide_eq_false c1]
        refine iteF ⟨_, rfl, rfl, _, rfl, iteF ?_⟩
        refine ⟨.ref t, rfl, _, rfl, t, l, c, Fo, R0, rfl, hR0, by omega, le4.g, fun D R' H' nD lR hR' rq le' => ?_⟩
        exact k D R' H' (le4.free tape nD) (by omega) (fun r hr => (gR0 r (hR' r hr)).mono (by decide)) rq (le4.trans le')
    · refine ⟨_, rfl, rfl, _, rfl, iteF ⟨_, rfl, rfl, _, rfl, iteF ⟨_, rfl, rfl, _, rfl, iteT ?_⟩⟩⟩
      refine ⟨_, rfl, _, rfl, by omega, by omega, ?_⟩
      rw [Int.toNat_natCast]
      refine fun L nL => lc_all (h := tp t l c) (walk_range (lo := 0) (n := size)) nL le4.g (by omega) (fun j v _ => ∃ z : Int, v = .int z ∧ z.natAbs ≤ 3) (fun _ _ _ _ _ q => q) (fun _ _ => trivial) ?_ ?_
      · rintro j y H5 H5' hj le6 ⟨zs2, hD2⟩ ⟨rfl, rfl⟩ Q2 kk2
        have nDT : L ∉ (tp t l c).T := Hid.nin (h := tp t l c) le4.g nL
        refine ⟨rfl, .ref t, rfl, t, l, c, 7, rfl, by decide, by decide, le6.g, fun v H6 v0 v1 le7 => ⟨_, _, rfl, rfl, ?_⟩⟩
        exact kk2 _ H6 le7 ((le7.keep nDT hD2).trans hD2.symm) ⟨_, rfl, by omega⟩
      intro H5 ys5 le5 e5 ly5 hy5
      obtain ⟨line, rfl, gl⟩ := ints_ys ly5 hy5
      have le6 := le4.trans le5
      obtain ⟨as, q1, q2, q3⟩ := id hR0
      have p41 : bigB < 2 ^ 4101 := Nat.lt_of_lt_of_le (show bigB < 2 ^ 100 by decide) (Nat.pow_le_pow_right (by decide) (by decide))
      have p43 : (3 : Nat) ≤ bigB := by decide
      refine ⟨_, rfl, Fo, rfl, ⟨_, sql (le5.s.seq q1)⟩, ?_⟩
      refine fun F2 nF2 => lc_all (h := tp t l c) (walk_list (K := K) (a := Fo) (xs := as.map V.ref)) nF2 le6.g (by simp; omega) (fun i v H => ∃ b, v = .ref b ∧ ∃ row, GoodR 2 size row ∧ SqT K H b (row.map V.int)) (fun i v H1 H2 s' ⟨b, e, row, g, q⟩ => ⟨b, e, row, g, Same.sqt s' q⟩) (fun H' s' => sql ((le5.s.trans s').seq q1)) ?_ ?_
      · rintro i x H7 H7' hi le7 ⟨zs, hD⟩ ⟨rfl, hx⟩ Q' kk
        obtain ⟨b, rfl, hi2, hb⟩ := nth_row q2 q3 hx
        have nF2T : F2 ∉ (tp t l c).T := Hid.nin (h := tp t l c) le6.g nF2
        have gr : GoodR 2 size (Sx.row R0 i) := gR0 _ (by unfold Sx.row; exact Sx.gd_mem hi2)
        have hb7 := (le5.trans le7).s
        have hbc := Same.sqt hb7 hb
        have eL7 := le7.s _ _ e5
        refine ⟨rfl, .ref b, rfl, .ref L, rfl, true, false, b, L, Sx.row R0 i, line, size, rfl, sqt hbc, SqK.l (.inl (.inl (cut_le eL7))), gr.1, gl.1, by omega, fun j => Nat.lt_of_le_of_lt (gr.2 j) (by omega), fun j => Nat.lt_of_le_of_lt (gl.2 j) (by omega), fun H8 s8 => ⟨_, _, rfl, rfl, _, rfl, ?_⟩⟩
        have le8 : Le (tp t l c) H7' H8 := Le.of le7.g s8
        have hD8 := s8 _ _ hD
        cases decide (Sx.dot size (Sx.row R0 i) line < 0) with
        | true =>
          refine iteT ⟨_, rfl, kk (.ref b) H8 le8 (hD8.trans hD.symm) ⟨b, rfl, _, gr, ?_⟩⟩
          exact sqt_cons (Same.sqt le8.s hbc) hD8
        | false =>
          refine iteF ⟨.ref b, rfl, b, rfl, ⟨_, Same.sqt s8 (sqt hbc)⟩, ?_⟩
          refine fun M nM => lc_ints (h := tp t l c) (walk_tup (K := K) (a := b) (xs := (Sx.row R0 i).map V.int)) nM le8.g (by simp [gr.1]; omega) (fun j => 0 - (Sx.row R0 i).getD j 0) (fun H' s' => sqt (Same.sqt (le8.s.trans s') hbc)) ?_ ?_
          · rintro j y H9 H9' hj le9 _ ⟨rfl, hx9⟩ Q2 kk2
            have ex := int_nth hx9
            subst ex
            exact ⟨rfl, _, rfl, _, _, rfl, rfl, kk2 H9' (Le.refl le9.g) rfl⟩
          intro H9 le9 e9
          rw [show ((Sx.row R0 i).map V.int).length = size by rw [List.length_map, gr.1]] at e9
          refine ⟨M, _, rfl, .inl ⟨.inl (.inl (cut_le e9)), fun q nq => ?_⟩⟩
          have hD9 := le9.keep nF2T hD8
          have nqF : q ≠ F2 := fun z => by rw [z, hD9] at nq; cases nq
          have leq := Le.new (o := .tup (((List.range size).map fun j => 0 - (Sx.row R0 i).getD j 0).map V.int)) le9.g nq
          refine kk (.ref q) _ (le8.trans (le9.trans leq)) ((upd_ne (Ne.symm nqF)).trans (hD9.trans hD.symm)) ⟨q, rfl, (List.range size).map fun j => 0 - (Sx.row R0 i).getD j 0, goodR_of (by simp) (fun z hz => ?_), .inl (.inl ?_)⟩
          · obtain ⟨j, _, rfl⟩ := List.mem_map.mp hz
            have := gr.2 j
            omega
          · rw [cut_ne (by
              intro z
              rcases List.mem_cons.mp z with z | z
              · exact nqF z
              · exact Hid.nin (h := tp t l c) le9.g nq z), upd_same]
      intro H7 ys7 le7 e7 ly7 hys7
      obtain ⟨R7, lR7, gR7, hR7⟩ := rows_made (h := tp t l c) e7 hys7
      rw [ly7, List.length_map, q2, lR0] at lR7
      have le8 := le6.trans le7
      refine ⟨.ref t, rfl, _, rfl, t, l, c, F2, R7, rfl, hR7, by omega, le8.g, fun D R' H' nD lR hR' rq le' => ?_⟩
      exact k D R' H' (le8.free tape nD) (by omega) (fun r hr => (gR7 r (hR' r hr)).mono (by decide)) rq (le8.trans le')
end
end Ls
end
section
set_option maxRecDepth 100000
set_option maxHeartbeats 4000000
namespace Ls
open PySem PySem.Spec PyProof.Rows L2
open Sx (cell)
section
variable {P : Program} {w : World} {K : PySem.W.Frag} {mg : Str → Option Value} {base : Heap} {C : Addr}
/-- the counts of the first i rows, each from nothing to four -/
def PairsC (K : PySem.W.Frag) (H : Hp) (cs : List (Addr × List Int)) (i : Nat) : Prop := ∀ p ∈ cs, SqT K H p.1 (p.2.map V.int) ∧ p.2.length = i ∧ ∀ z ∈ p.2, 0 ≤ z ∧ z ≤ 4
theorem PairsC.mono {H H' : Hp} {cs : List (Addr × List Int)} {i : Nat} (s : Same H H') (p : PairsC K H cs i) : PairsC K H' cs i := fun q hq => ⟨Same.sqt s (p q hq).1, (p q hq).2⟩
theorem PairsC.append {H : Hp} {cs ds : List (Addr × List Int)} {i : Nat} (p : PairsC K H cs i) (q : PairsC K H ds i) : PairsC K H (cs ++ ds) i := fun r hr => (List.mem_append.mp hr).elim (p r) (q r)
theorem addrs_app {cs ds : List (Addr × List Int)} : addrs (cs ++ ds) = addrs cs ++ addrs ds := by unfold addrs; simp
theorem addrs_len {cs : List (Addr × List Int)} : (addrs cs).length = cs.length := by unfold addrs; simp
theorem addrs_at {cs : List (Addr × List Int)} {i : Nat} {x : V} (e : ((addrs cs).map V.ref)[i]? = some x) : ∃ p, cs[i]? = some p ∧ x = .ref p.1 := by
  unfold addrs at e
  rw [List.getElem?_map, List.getElem?_map] at e
  cases q : cs[i]? with
  | none => rw [q] at e; cases e
  | some p => rw [q] at e; exact ⟨p, rfl, (Option.some.inj e).symm⟩
theorem pairs_c {H : Hp} {i : Nat} : ∀ {ys : List V}, (∀ (j : Nat) (y : V), ys[j]? = some y → ∃ b, y = .ref b ∧ ∃ row : List Int, (row.length = i ∧ ∀ z ∈ row, 0 ≤ z ∧ z ≤ 4) ∧ SqT K H b (row.map V.int)) → ∃ cs, ys = (addrs cs).map V.ref ∧ PairsC K H cs i
  | [], _ => ⟨[], rfl, fun p hp => by simp at hp⟩
  | y :: ys, g => by
    obtain ⟨cs, e1, e2⟩ := pairs_c (ys := ys) fun j y hy => g (j + 1) y (by simpa using hy)
    obtain ⟨b, eb, row, hg, hs⟩ := g 0 y rfl
    refine ⟨(b, row) :: cs, by rw [eb, e1]; rfl, fun p hp => ?_⟩
    rcases List.mem_cons.mp hp with q | q
    · rw [q]; exact ⟨hs, hg⟩
    · exact e2 p q
theorem comp_more {H : Hp} {Q : VK} {Cc : Addr} {cs : List (Addr × List Int)} {i : Nat} {k : Int} {v0 v1 v2 v4 v5 v6 v7 : Option V} (hk : 0 ≤ k ∧ k ≤ 4) (hC : SqL K H Cc ((addrs cs).map V.ref)) (hp : PairsC K H cs i) (hn : cs.length < 1000) (hi : i < 1000)
    (h : ∀ D cs' H', Same H H' → H' D = some (.lst ((addrs cs').map V.ref)) → PairsC K H' cs' (i + 1) → cs'.length = cs.length → Q (.ref D) H') :
    tLc (iList K (tVar 3)) (gName 6) tYes (tOp (rCatA K) (tVar 6) (tTup (tCons (tC (.int k)) tNil))) [6] [v0, v1, v2, some (.ref Cc), v4, v5, v6, v7] H Q := by
  refine ⟨_, rfl, Cc, rfl, ⟨_, hC⟩, ?_⟩
  refine fun D nD => lc_all (h := Hid.no) (walk_list (K := K) (a := Cc) (xs := (addrs cs).map V.ref)) nD trivial (by rw [List.length_map, addrs_len]; omega) (fun j v H => ∃ b, v = .ref b ∧ ∃ row : List Int, (row.length = i + 1 ∧ ∀ z ∈ row, 0 ≤ z ∧ z ≤ 4) ∧ SqT K H b (row.map V.int)) (fun i v H1 H2 s' ⟨b, e, row, g, q⟩ => ⟨b, e, row, g, Same.sqt s' q⟩) (fun H' s' => (by rw [cut_no, cut_no] at s'; exact s'.seq hC)) ?_ ?_
  · rintro j x H3 H3' hj le3 ⟨zs, hD⟩ ⟨rfl, hx⟩ Q' kk
    obtain ⟨p, ep, rfl⟩ := addrs_at hx
    obtain ⟨h1, h2, h3⟩ := hp p (List.mem_of_getElem? ep)
    have h1' := Same.sqt le3.no h1
    refine ⟨rfl, _, rfl, by show 1 ≤ sizeLine; decide, fun q nq => ?_⟩
    have s4 := same_new (o := .tup [.int k]) nq
    have nqD : q ≠ D := fun z => by rw [z, hD] at nq; cases nq
    have hD4 := s4 _ _ hD
    refine ⟨p.1, q, p.2.map V.int, [.int k], rfl, rfl, Same.sqt s4 h1', .inl (.inl upd_same), by rw [List.length_map, h2, sizeLine_eq]; show i + 1 ≤ _; omega, fun e0 => ?_, fun _ e => by simp at e, fun _ _ r nr => ?_⟩
    · have : p.2 = [] := by simpa using e0
      rw [this] at h2
      refine kk (.ref q) _ (Le.of (h := Hid.no) trivial s4) (hD4.trans hD.symm) ⟨q, rfl, [k], ⟨by simp at h2; simp; omega, fun z hz => by rw [List.mem_singleton.mp hz]; exact hk⟩, .inl (.inl ?_)⟩
      rw [cut_ne (by intro z; rcases List.mem_cons.mp z with z | z; exact nqD z; cases z), upd_same]; rfl
    · have s5 := same_new (o := .tup (p.2.map V.int ++ [.int k])) nr
      have nrD : r ≠ D := fun z => by rw [z, hD4] at nr; cases nr
      refine kk (.ref r) _ (Le.of (h := Hid.no) trivial (s4.trans s5)) ((s5 _ _ hD4).trans hD.symm) ⟨r, rfl, p.2 ++ [k], ⟨by simp [h2], fun z hz => ?_⟩, .inl (.inl ?_)⟩
      · rcases List.mem_append.mp hz with q | q
        · exact h3 z q
        · rw [List.mem_singleton.mp q]; exact hk
      · rw [cut_ne (by intro z; rcases List.mem_cons.mp z with z | z; exact nrD z; cases z), upd_same, List.map_append]; rfl
  · intro H' ys le e ly hy
    rw [cut_no] at e
    obtain ⟨cs', rfl, pc⟩ := pairs_c hy
    rw [List.length_map, addrs_len, List.length_map, addrs_len] at ly
    exact h D cs' H' le.no e (pc.mono cut_same) ly
theorem eqD_rowsL {H : Hp} {a z : Addr} {as : List Addr} {rows : List (List Int)} {Q : VK} (h1 : SqL K H a (as.map V.ref)) (h2 : as.length = rows.length) (h3 : ∀ (i : Nat) (b : Addr) (row : List Int), as[i]? = some b → rows[i]? = some row → SqT K H b (row.map V.int)) (hz : SqL K H z []) (q : Q (.bl rows.isEmpty) H) : rEqD K (.ref a) (.ref z) H Q :=
  ⟨_, _, .lst h1 (dp_rows h2 h3), .lst hz .nil, shaped_rows rows, shaped_ints [], by rw [eqv_rows]; exact q⟩
def nzero (ss : List Int) (size : Nat) : Bool := ((List.range size).filter fun j => !decide (ss.getD j 0 = 0)).isEmpty
def fineB (R : List (List Int)) (size : Nat) (row : List Int) : Bool := decide (0 < row.sum) && nzero (sumsOf R row size) size
theorem pairsC_each {H : Hp} {cs : List (Addr × List Int)} {n : Nat} (p : PairsC K H cs n) (f : List Int → Bool) (i : Nat) (b : Addr) (row : List Int) (e1 : (((List.range cs.length).filter fun i => f (cs.getD i (0, [])).2).map fun i => (cs.getD i (0, [])).1)[i]? = some b)
    (e2 : (((List.range cs.length).filter fun i => f (cs.getD i (0, [])).2).map fun i => (cs.getD i (0, [])).2)[i]? = some row) : SqT K H b (row.map V.int) := by
  rw [List.getElem?_map] at e1 e2
  cases q : ((List.range cs.length).filter fun i => f (cs.getD i (0, [])).2)[i]? with
  | none => rw [q] at e1; cases e1
  | some x =>
    rw [q] at e1 e2
    rw [← Option.some.inj e1, ← Option.some.inj e2]
    have hx := List.mem_range.mp (List.mem_filter.mp (List.mem_of_getElem? q)).1
    exact (p _ (Sx.gd_mem hx)).1
theorem fine_none {R : List (List Int)} {size : Nat} {y row : List Int} (hb : Sx.Below R [] size y) (hl : row.length = R.length) (h0 : ∀ z ∈ row, 0 ≤ z ∧ z ≤ 4) : fineB R size row = false := by
  cases q : fineB R size row with
  | false => rfl
  | true =>
    exfalso
    unfold fineB nzero at q
    rw [Bool.and_eq_true, decide_eq_true_eq, List.isEmpty_iff] at q
    have nn : ∀ i, 0 ≤ row.getD i 0 ∧ row.getD i 0 ≤ 4 := fun i => by
      rw [List.getD_eq_getElem?_getD]
      cases e : row[i]? with
      | none => exact ⟨by show (0 : Int) ≤ 0; omega, by show (0 : Int) ≤ 4; omega⟩
      | some z => exact h0 z (List.mem_of_getElem? e)
    have p41 : (4 : Nat) < 2 ^ 4100 := Nat.lt_of_lt_of_le (show 4 < 2 ^ 3 by decide) (Nat.pow_le_pow_right (by decide) (by decide))
    refine Sx.not_both (x := row) (z := []) hb ⟨hl, rfl, fun i => (nn i).1, ?_, fun k hk => ?_, fun k => ?_, fun k => ?_⟩
    · rw [← hl, ← sum_list]; exact q.1
    · have h1 : (sumsOf R row size).getD k 0 = 0 := by
        refine Decidable.byContradiction fun c => ?_
        have : k ∈ (List.range size).filter fun j => !decide ((sumsOf R row size).getD j 0 = 0) := List.mem_filter.mpr ⟨List.mem_range.mpr hk, by rw [decide_eq_false c]; rfl⟩
        rw [q.2] at this; simp at this
      rw [sums_at hk] at h1
      rw [h1]; rfl
    · have := nn k; omega
    · simp
      exact Nat.pow_pos (by decide)
def spSmall (K : PySem.W.Frag) : Sp := fun vs H Q _ => ∃ (a D : Addr) (R : List (List Int)) (size : Nat), vs = [.ref a, .int (size : Int), .ref D] ∧ RowsQ K H a R ∧ R.length ≤ 3 ∧ (∀ i, i < R.length → (Sx.row R i).length = size) ∧ size ≤ 20 ∧ (∀ i k, (cell R i k).natAbs < 2 ^ 100) ∧ ToldP K H D R size ∧ ∀ H', Same H H' → Q (.bl true) H'
theorem ok_small {f : Addr} {fd : FuncData} (F : Fun K "_law_small_right" "_law_small_right" s_law_small_right f fd) (T : Bi mg) (D_law_sums : Df P w K mg base 1 "_law_sums" ["rows", "counts", "size"] (spSums K)) : FnOk P w K mg base CX0 2 f fd ["rows", "size", "told"] (spSmall K) := by
  refine F.ok sc_law_small_right (fun vs H Q E h => ?_) (fun cdv A outer s H vs Q E hr h => ?_)
  · obtain ⟨a, D, R, size, rfl, _⟩ := h
    rfl
  · obtain ⟨a, D, R, size, rfl, hR, nR, lR, hs, bR, told, k⟩ := h
    refine ⟨_, (pss_cons (ps_set (i := 3) sc_law_small_right.nd rfl (Or.inl rfl) (pe_lst (pa_cons (pe_tup pa_nil) pa_nil)))
      (pss_cons (ps_for PassesOwn.never rfl (kfor_list K (pv 0)) (pg_name (i := 4) sc_law_small_right.nd rfl (Or.inl rfl)) (pss_one (ps_set (i := 3) sc_law_small_right.nd rfl (Or.inl rfl) (pe_op op_cat (pe_op op_cat (pe_op op_cat (pe_lc (own := [("some", 6)]) (g := gName 6) (tt := tYes) rfl sc_law_small_right.nd (kfor_list K (pv 3)) (blkOk_by (own := [("some", 6)]) (N := ["rows", "size", "told", "counts", "row", "fine", "some", "item"]) (sc := defScope s_law_small_right) (by decide +kernel)) (fun _ _ _ _ _ => (pg_name (i := 6) sc_law_small_right.nd rfl (Or.inl rfl))) (fun _ _ _ _ _ => pts_nil) (fun _ _ _ _ _ => (pe_op (kcatA K) (pv 6) (pe_tup (pa_cons pe_int pa_nil))))) (pe_lc (own := [("some", 6)]) (g := gName 6) (tt := tYes) rfl sc_law_small_right.nd (kfor_list K (pv 3)) (blkOk_by (own := [("some", 6)]) (N := ["rows", "size", "told", "counts", "row", "fine", "some", "item"]) (sc := defScope s_law_small_right) (by decide +kernel)) (fun _ _ _ _ _ => (pg_name (i := 6) sc_law_small_right.nd rfl (Or.inl rfl))) (fun _ _ _ _ _ => pts_nil) (fun _ _ _ _ _ => (pe_op (kcatA K) (pv 6) (pe_tup (pa_cons pe_int pa_nil)))))) (pe_lc (own := [("some", 6)]) (g := gName 6) (tt := tYes) rfl sc_law_small_right.nd (kfor_list K (pv 3)) (blkOk_by (own := [("some", 6)]) (N := ["rows", "size", "told", "counts", "row", "fine", "some", "item"]) (sc := defScope s_law_small_right) (by decide +kernel)) (fun _ _ _ _ _ => (pg_name (i := 6) sc_law_small_right.nd rfl (Or.inl rfl))) (fun _ _ _ _ _ => pts_nil) (fun _ _ _ _ _ => (pe_op (kcatA K) (pv 6) (pe_tup (pa_cons pe_int pa_nil)))))) (pe_lc (own := [("some", 6)]) (g := gName 6) (tt := tYes) rfl sc_law_small_right.nd (kfor_list K (pv 3)) (blkOk_by (own := [("some", 6)]) (N := ["rows", "size", "told", "counts", "row", "fine", "some", "item"]) (sc := defScope s_law_small_right) (by decide +kernel)) (fun _ _ _ _ _ => (pg_name (i := 6) sc_law_small_right.nd rfl (Or.inl rfl))) (fun _ _ _ _ _ => pts_nil) (fun _ _ _ _ _ => (pe_op (kcatA K) (pv 6) (pe_tup (pa_cons pe_int pa_nil)))))))))
      (pss_cons (ps_setLc (i := 5) (own := [("some", 6)]) (g := gName 6) (tt := _) rfl sc_law_small_right.nd rfl rfl (sw_true rfl rfl rfl (by decide +kernel)) (kfor_list K (pv 3)) (blkOk_by (own := [("some", 6)]) (N := ["rows", "size", "told", "counts", "row", "fine", "some", "item"]) (sc := defScope s_law_small_right) (by decide +kernel)) (fun _ _ _ _ _ => (pg_name (i := 6) sc_law_small_right.nd rfl (Or.inl rfl))) (fun _ _ _ _ _ => (by exact (pts_one (PW.pt (pw_and (pt_cmpR op_gt (pe_callB (ksumA K) (by rfl) T.b_sum (by decide +kernel) (pa_cons (pv 6) pa_nil)) pe_int (nomark _)) (pw_and1 (pt_cmpR (keqD K hr.units) (pe_lc (own := [("item", 7)]) (g := gName 7) (tt := _) rfl sc_law_small_right.nd (kfor_list K (pe_df D_law_sums (hr.mono (by decide)) (by rfl) (pa_cons (pv 0) (pa_cons (pv 6) (pa_cons (pv 1) pa_nil))))) (blkOk_by (own := [("item", 7)]) (N := ["rows", "size", "told", "counts", "row", "fine", "some", "item"]) (sc := relS _ (defScope s_law_small_right)) (by decide +kernel)) (fun _ _ _ _ _ => (pg_name (i := 7) sc_law_small_right.nd rfl (Or.inl rfl))) (fun _ _ _ _ _ => (by exact (pts_one (pt_cmpR op_ne (pv 7) pe_int (nomark _))))) (fun _ _ _ _ _ => (pv 7))) (pe_lst pa_nil) (nomark _)))))))) (fun _ _ _ _ _ => (pv 6)))
      (pss_one (ps_ret (pe_or (pe_cmpR (keqD K hr.units) (pv 5) (pe_lst pa_nil) (nomark _)) (pe_one (pe_cmpR op_eq (pe_ix (kixT K) (pv 2) pe_int (fun _ _ => rfl)) pe_str (nomark _))))))))), ?_⟩
    obtain ⟨as, q1, q2, q3⟩ := id hR
    refine ⟨by show 0 ≤ sizeLine; decide, fun p0 np0 => ⟨by show 1 ≤ sizeLine; decide, fun C0 nC0 => ?_⟩⟩
    have sp0 := same_new (o := .tup []) np0
    have sC0 := same_new (o := .lst [.ref p0]) nC0
    have s0 := sp0.trans sC0
    refine ⟨_, rfl, a, rfl, ⟨_, s0.seq q1⟩, for_list (K := K) (a := a) (xs := as.map V.ref) (fun i σ H2 => ∃ (Cc : Addr) (cs : List (Addr × List Int)) (v4 : Option V), σ = [some (.ref a), some (.int (size : Int)), some (.ref D), some (.ref Cc), v4, none, none, none] ∧ Same H H2 ∧ SqL K H2 Cc ((addrs cs).map V.ref) ∧ PairsC K H2 cs i ∧ cs.length = 4 ^ i)
      ⟨C0, [(p0, [])], none, rfl, s0, .inl (.inl upd_same), fun p hp => by
        rw [List.mem_singleton.mp hp]
        exact ⟨.inl (.inl (sC0 _ _ upd_same)), rfl, fun z hz => by simp at hz⟩, rfl⟩ (fun i σ H2 _ ⟨_, _, _, _, s, _⟩ => s.seq q1) ?_ ?_⟩
    · rintro i y σ H2 hi ⟨Cc, cs, v4, rfl, s2, hC, hp, hl⟩
      have hi3 : i < 3 := by
        have := (List.getElem?_eq_some_iff.mp hi).1
        rw [List.length_map, q2] at this
        omega
      have l64 : cs.length ≤ 16 := by
        rw [hl]
        exact Nat.le_trans (Nat.pow_le_pow_right (by decide) (show i ≤ 2 by omega)) (by decide)
      dsimp only [gName, tAsg, tOp, List.set, List.map_cons, List.map_nil]
      refine comp_more (K := K) (k := 0) (by decide) hC hp (by omega) (by omega) fun Da ca Ha sa ea pa la => ?_
      refine comp_more (K := K) (k := 1) (by decide) (sa.seq hC) (hp.mono sa) (by omega) (by omega) fun Db cb Hb sb eb pb' lb => ?_
      refine ⟨Da, Db, _, _, rfl, rfl, sb _ _ ea, eb, by rw [List.length_map, List.length_map, addrs_len, addrs_len, sizeLine_eq]; omega, fun De nDe => ?_⟩
      have se := same_new (o := .lst ((addrs ca).map V.ref ++ (addrs cb).map V.ref)) nDe
      refine comp_more (K := K) (k := 2) (by decide) (((sa.trans sb).trans se).seq hC) (hp.mono ((sa.trans sb).trans se)) (by omega) (by omega) fun Dc cc Hc sc ec pc lc => ?_
      refine ⟨De, Dc, _, _, rfl, rfl, sc _ _ upd_same, ec, by rw [List.length_append, List.length_map, List.length_map, List.length_map, addrs_len, addrs_len, addrs_len, sizeLine_eq]; omega, fun Df' nDf => ?_⟩
      have sf := same_new (o := .lst ((addrs ca).map V.ref ++ (addrs cb).map V.ref ++ (addrs cc).map V.ref)) nDf
      have s5 := (((sa.trans sb).trans se).trans sc).trans sf
      refine comp_more (K := K) (k := 4) (by decide) (s5.seq hC) (hp.mono s5) (by omega) (by omega) fun Dd cd Hd sd ed pd ld => ?_
      refine ⟨Df', Dd, _, _, rfl, rfl, sd _ _ upd_same, ed, by rw [List.length_append, List.length_append, List.length_map, List.length_map, List.length_map, List.length_map, addrs_len, addrs_len, addrs_len, addrs_len, sizeLine_eq]; omega, fun Dg nDg => ?_⟩
      have sg := same_new (o := .lst ((addrs ca).map V.ref ++ (addrs cb).map V.ref ++ (addrs cc).map V.ref ++ (addrs cd).map V.ref)) nDg
      have tail1 := sd.trans sg
      have tail2 := sf.trans tail1
      have tail3 := sc.trans tail2
      have tail4 := se.trans tail3
      have tail5 := sb.trans tail4
      refine ⟨Dg, ca ++ cb ++ cc ++ cd, _, rfl, s2.trans ((((((sa.trans sb).trans se).trans sc).trans sf).trans sd).trans sg), .inl (.inl ?_), (((pa.mono tail5).append (pb'.mono tail4)).append (pc.mono tail2)).append (pd.mono sg), ?_⟩
      · rw [upd_same, addrs_app, addrs_app, addrs_app, List.map_append, List.map_append, List.map_append]
      · rw [List.length_append, List.length_append, List.length_append, la, lb, lc, ld, hl, Nat.pow_succ]; omega
    · rintro σ H2 ⟨Cc, cs, v4, rfl, s2, hC, hp, hl⟩
      rw [List.length_map, q2] at hp hl
      have l64 : cs.length ≤ 64 := by
        rw [hl]
        exact Nat.le_trans (Nat.pow_le_pow_right (by decide) nR) (by decide)
      have p100 := pow_100
      refine ⟨_, rfl, Cc, rfl, ⟨_, hC⟩, ?_⟩
      refine fun M nM => lc_sel (h := Hid.no) (walk_list (K := K) (a := Cc) (xs := (addrs cs).map V.ref)) nM trivial (by rw [List.length_map, addrs_len]; omega) (fun i => fineB R size (cs.getD i (0, [])).2) (fun i => .ref (cs.getD i (0, [])).1) (fun H' s' => (by rw [cut_no, cut_no] at s'; exact s'.seq hC)) ?_ ?_
      · rintro i x H3 H3' hi le3 ⟨zs, hM⟩ ⟨rfl, hx⟩ Q' N kq kn
        obtain ⟨p, ep, rfl⟩ := addrs_at hx
        have egd : cs.getD i (0, []) = p := by rw [List.getD_eq_getElem?_getD, ep]; rfl
        rw [egd] at kq kn
        obtain ⟨h1, h2, h3⟩ := hp p (List.mem_of_getElem? ep)
        have h1' := Same.sqt le3.no h1
        have s3 := s2.trans le3.no
        refine ⟨rfl, _, rfl, p.1, p.2, rfl, .inr h1', _, _, rfl, rfl, _, rfl, ?_⟩
        cases c : decide (0 < p.2.sum) with
        | false => exact iteF (kn _ (Le.refl trivial) rfl (by unfold fineB; rw [c]; rfl))
        | true =>
          have bp : ∀ j, (p.2.getD j 0).natAbs < 2 ^ 4101 := fun j => by
            have : (p.2.getD j 0).natAbs ≤ 4 := by
              rw [List.getD_eq_getElem?_getD]
              cases e : p.2[j]? with
              | none => show (0 : Int).natAbs ≤ 4; decide
              | some z => have := h3 z (List.mem_of_getElem? e); show z.natAbs ≤ 4; omega
            exact Nat.lt_of_le_of_lt this (Nat.lt_of_lt_of_le (show 4 < 2 ^ 3 by decide) (Nat.pow_le_pow_right (by decide) (by decide)))
          refine iteT ⟨.ref a, rfl, .ref p.1, rfl, _, rfl, true, a, p.1, R, p.2, size, rfl, hR.mono s3, SqK.t h1', h2, by omega, by omega, lR, bp, fun i j => Nat.lt_trans (bR i j) p100, fun S H4 nS s4 eS => ⟨S, rfl, ⟨_, .inl (.inl eS)⟩, ?_⟩⟩
          refine fun M2 nM2 => lc_sel (h := Hid.no) (walk_list (K := K) (a := S) (xs := (sumsOf R p.2 size).map V.int)) nM2 trivial (by rw [List.length_map, sums_len]; omega) (fun j => !decide ((sumsOf R p.2 size).getD j 0 = 0)) (fun j => .int ((sumsOf R p.2 size).getD j 0)) (fun H' s' => (by rw [cut_no, cut_no] at s'; exact s'.seq (.inl (.inl eS)))) ?_ ?_
          · rintro j y H5 H5' hj le5 _ ⟨rfl, hy⟩ Q2 N2 kq2 kn2
            have ey := int_nth hy
            subst ey
            refine ⟨rfl, _, rfl, rfl, _, rfl, ?_⟩
            rw [show (!decide (V.int ((sumsOf R p.2 size).getD j 0) = V.int 0)) = !decide ((sumsOf R p.2 size).getD j 0 = 0) by
              by_cases z : (sumsOf R p.2 size).getD j 0 = 0
              · rw [z]; simp
              · rw [decide_eq_false z, decide_eq_false fun q => z (V.int.inj q)]]
            cases z : (!decide ((sumsOf R p.2 size).getD j 0 = 0)) with
            | true => exact iteT ⟨_, rfl, kq2 _ (Le.refl trivial) rfl z⟩
            | false => exact iteF (kn2 _ (Le.refl trivial) rfl z)
          intro H6 le6 e6
          rw [cut_no, List.length_map, sums_len] at e6
          refine ⟨Nat.zero_le _, fun q nq => ?_⟩
          have sq := same_new (o := .lst []) nq
          have en : (((List.range size).filter fun j => !decide ((sumsOf R p.2 size).getD j 0 = 0)).map fun j => V.int ((sumsOf R p.2 size).getD j 0)) = (((List.range size).filter fun j => !decide ((sumsOf R p.2 size).getD j 0 = 0)).map fun j => (sumsOf R p.2 size).getD j 0).map V.int := by rw [List.map_map]; rfl
          rw [en] at e6
          have s6 : Same H3' (upd H6 q (.lst [])) := (s4.trans le6.no).trans sq
          have hM6 := s6 _ _ hM
          refine eqD_nil (.inl (.inl (sq _ _ e6))) (.inl (.inl upd_same)) ⟨_, rfl, ?_⟩
          have ez : (((List.range size).filter fun j => !decide ((sumsOf R p.2 size).getD j 0 = 0)).map fun j => (sumsOf R p.2 size).getD j 0).isEmpty = nzero (sumsOf R p.2 size) size := by
            unfold nzero
            rw [List.isEmpty_map]
          rw [ez]
          cases z : nzero (sumsOf R p.2 size) size with
          | true => exact iteT ⟨_, rfl, kq _ (Le.of (h := Hid.no) trivial s6) (hM6.trans hM.symm) (by unfold fineB; rw [c, z]; rfl)⟩
          | false => exact iteF (kn _ (Le.of (h := Hid.no) trivial s6) (hM6.trans hM.symm) (by unfold fineB; rw [c, z]; rfl))
      intro H7 le7 e7
      rw [cut_no, List.length_map, addrs_len] at e7
      have s7 := s2.trans le7.no
      refine ⟨_, rfl, Nat.zero_le _, fun q nq => ?_⟩
      have sq := same_new (o := .lst []) nq
      have s8 := s7.trans sq
      have ea : (((List.range cs.length).filter fun i => fineB R size (cs.getD i (0, [])).2).map fun i => V.ref (cs.getD i (0, [])).1) = ((((List.range cs.length).filter fun i => fineB R size (cs.getD i (0, [])).2).map fun i => (cs.getD i (0, [])).1)).map V.ref := by rw [List.map_map]; rfl
      rw [ea] at e7
      refine eqD_rowsL (rows := ((List.range cs.length).filter fun i => fineB R size (cs.getD i (0, [])).2).map fun i => (cs.getD i (0, [])).2) (.inl (.inl (sq _ _ e7))) (by simp) (fun i b row r1 r2 => Same.sqt (le7.no.trans sq) (pairsC_each hp (fineB R size) i b row r1 r2)) (.inl (.inl upd_same)) ⟨_, rfl, ?_⟩
      rw [List.isEmpty_map]
      rcases told with ⟨D1, y, eD, _, hb⟩ | ⟨D1, x, z, eD, _, _⟩
      · rw [show ((List.range cs.length).filter fun i => fineB R size (cs.getD i (0, [])).2) = [] from filter_no fun i hi => by
          obtain ⟨_, g2, g3⟩ := hp _ (Sx.gd_mem (d := (0, [])) hi)
          exact fine_none hb g2 g3]
        exact iteT (k _ s8)
      · cases ((List.range cs.length).filter fun i => fineB R size (cs.getD i (0, [])).2).isEmpty with
        | true => exact iteT (k _ s8)
        | false =>
          have td : SqT K (upd H7 q (.lst [])) D [strV "cancel", .ref D1] := Same.sqt s8 (.inl (.inl eD))
          refine iteF ⟨.ref D, rfl, D, _, _, .str (Str.ofString "cancel"), rfl, rfl, td, atI_nat (j := 0) rfl, rfl, ?_⟩
          rw [decide_eq_true rfl]
          exact k _ s8
end
end Ls
end
section
set_option maxRecDepth 100000
set_option maxHeartbeats 4000000
namespace Ls
open PySem PySem.Spec PyProof.Rows L2
/-! ### a tuple of one item, times 0 or 1 -/
theorem tuple_mul1 (l : Addr) (x : Value) (n : Nat) (dd : Option Addr) (sl : Array (Option Value)) (u : Tok) :
    Meets (Builtin.«tuple.__mul__» ⟨[.ref l, .int 1 u], []⟩) (fun _ R s => s.heap.get? l = some { cls := .type "tuple", dict := dd, data := .seq #[x] n, slots := sl } ∧ R (.ok (.ret (Value.ref l))) s) :=
  .of_wp fun prog w A R s h => by
    obtain ⟨hp, g, d, tk, os⟩ := s
    obtain ⟨hl, h⟩ := h
    have f1 := AutoSeq1.idx_int
    have hT : Shared.TypeIs ⟨hp, g, d, tk, os⟩ (.ref l) "tuple" := ⟨_, hl, rfl⟩
    wp_walk using wpAny_loadPart' hl
    repeat (first
      | (refine wpAny_ite_false (by decide) ?_; wp_walk using wpAny_loadPart' hl)
      | (refine wpAny_ite_true (by simp) ?_; wp_walk using wpAny_loadPart' hl))
    exact ⟨_, rfl, h⟩
theorem tuple_mul0 (l : Addr) (x : Value) (n : Nat) (dd : Option Addr) (sl : Array (Option Value)) (u : Tok) :
    Meets (Builtin.«tuple.__mul__» ⟨[.ref l, .int 0 u], []⟩) (fun _ R s => s.heap.get? l = some { cls := .type "tuple", dict := dd, data := .seq #[x] n, slots := sl } ∧
      R (.ok (.ret (Value.ref s.heap.objs.size))) { s with heap := s.heap.push { cls := Value.type "tuple", data := Data.seq #[] } }) :=
  .of_wp fun prog w A R s h => by
    obtain ⟨hp, g, d, tk, os⟩ := s
    obtain ⟨hl, h⟩ := h
    have f1 := AutoSeq1.idx_int
    have hT : Shared.TypeIs ⟨hp, g, d, tk, os⟩ (.ref l) "tuple" := ⟨_, hl, rfl⟩
    wp_walk using wpAny_loadPart' hl
    repeat (first
      | (refine wpAny_ite_false (by decide) ?_; wp_walk using wpAny_loadPart' hl)
      | (refine wpAny_ite_true (by simp) ?_; wp_walk using wpAny_loadPart' hl))
    exact ⟨_, rfl, h⟩
/-- (x,) * k, 0 ≤ k ≤ 1000 -/
def rRepO (K : PySem.W.Frag) : R2 := fun x y H Q => ∃ (l : Addr) (k : Nat) (z : V), x = .ref l ∧ y = .int (k : Int) ∧ H l = some (.tup [z]) ∧ k ≤ 1000 ∧ ∀ p H', Same H H' → SqT K H' p (List.replicate k z) → Q (.ref p) H'
theorem op_repO {X : Cx} : OpR X (binaryOp .Mult) (rRepO X.K) := by
  intro pins s σ H x y v u Q I rx ry h
  obtain ⟨l, k, z, rfl, rfl, hT, hk, q⟩ := h
  by_cases c : 2 ≤ k
  · refine op_repT pins s σ H (.ref l) (.int (k : Int)) v u Q I rx ry ⟨l, (k : Int), [z], rfl, rfl, .inl (.inl hT), by simp, by omega, by omega, (show 1 ≤ 1000 by decide), fun p np => q p _ (same_new np) (.inl (.inl ?_))⟩
    rw [upd_same, Int.toNat_natCast]
    congr 2
    have rf : ∀ n : Nat, (List.replicate n [z]).flatten = List.replicate n z := fun n => by
      induction n with
      | zero => rfl
      | succ n ih => rw [List.replicate_succ, List.flatten_cons, ih, List.replicate_succ]; rfl
    exact rf k
  · cases rx
    obtain ⟨t, rfl⟩ := ry
    obtain ⟨its, r, ⟨⟨cls, dd, data, sl⟩, ho, hc, n, hd⟩, hs⟩ := I.tuple (.inl (.inl hT))
    simp only at hc hd
    subst hc hd
    cases r with
    | @cons _ a _ _ ra rr =>
      cases rr
      have k01 : k = 0 ∨ k = 1 := by omega
      rcases k01 with rfl | rfl
      · refine wpAny_binaryOp_repeat_ref (T := "tuple") (U := "int") (by decide) ⟨_, ho, rfl⟩ (fun s' => typeIs_int s' 0 t) noFill_tuple_mul F.fills_int_mul F.slot_int_rmul repeat_tuple F.slot_int_index.lookup
          (call_meets F.slot_int_rmul (typeIs_int s 0 t) F.entry_int_rmul (F.args_int_rmul_2 _ _) (int_rmul_tuple 0 t l #[a] n dd sl)
            ⟨ho, rfl, ⟨_, ho, rfl⟩, call_meets F.slot_tuple_mul ⟨_, ho, rfl⟩ F.entry_tuple_mul (F.args_tuple_mul_2 _ _) (tuple_mul0 l a n dd sl t) ⟨ho, ?_⟩⟩)
        have hn := I.hok.fresh (Nat.le_refl s.heap.objs.size)
        refine ⟨.ref s.heap.objs.size, _, I.laid (t' := s.toks) (o := .tup []) (fun b ob q => Heap.get?_push_of_some _ q) (Nat.le_refl _) ?_, rfl, q _ _ (same_new hn) (.inl (.inl upd_same))⟩
        exact ⟨Nat.zero_le _, [], .nil, IsTup.new _ _⟩
      · refine wpAny_binaryOp_repeat_ref (T := "tuple") (U := "int") (by decide) ⟨_, ho, rfl⟩ (fun s' => typeIs_int s' 1 t) noFill_tuple_mul F.fills_int_mul F.slot_int_rmul repeat_tuple F.slot_int_index.lookup
          (call_meets F.slot_int_rmul (typeIs_int s 1 t) F.entry_int_rmul (F.args_int_rmul_2 _ _) (int_rmul_tuple 1 t l #[a] n dd sl)
            ⟨ho, rfl, ⟨_, ho, rfl⟩, call_meets F.slot_tuple_mul ⟨_, ho, rfl⟩ F.entry_tuple_mul (F.args_tuple_mul_2 _ _) (tuple_mul1 l a n dd sl t) ⟨ho, ?_⟩⟩)
        exact ⟨.ref l, H, I, rfl, q _ _ (Same.refl _) (.inl (.inl hT))⟩
theorem krepO {X : Cx} (K : PySem.W.Frag) (hK : X.K = K := by rfl) : OpR X (binaryOp .Mult) (rRepO K) := hK ▸ op_repO
/-! ### calls by keywords alone -/
structure DfK (P : Program) (w : World) (K : PySem.W.Frag) (mg : Str → Option Value) (base : Heap) (k : Nat) (x : Str) (ps ks : List Str) (sp : Sp) (gV : List V → List V → List V) : Prop where
  ex : ∃ f fd g, FnOk P w K mg base CX0 k f fd ps sp ∧ mg x = some (.ref f) ∧ PySem.W.keepIn K (.ref f) = true ∧ KBinds K fd ps ks g gV
theorem pe_dfK {X : Cx} {k : Nat} {x : Str} {ps ks : List Str} {sp : Sp} {gV : List V → List V → List V} {kws : List Keyword} {tk : TA} {p pos : Pos} (D : DfK X.prog X.w X.K X.mg X.base k x ps ks sp gV) (hr : Room k X.A) (hg : Gl X x) (hkw : PK X kws tk)
    (hall : (backToKw pos (keywordEach kws X.env)).all (·.1.isSome) = true := by rfl) (hks : (backToKw pos (keywordEach kws X.env)).filterMap (·.1) = ks := by rfl) (hdb : (x == ("__debug__" : Str)) = false := by decide)
    (hpl : ((backTo pos (starEach [] X.env)).any (·.1) || (backToKw pos (keywordEach kws X.env)).any (·.1.isNone)) = false := by rfl) :
    PE X (.Call (.Name x p) [] kws pos) (fun σ H Q => tk σ H fun zs H2 => sp (gV [] zs) H2 Q E0) := by
  obtain ⟨f, fd, g, F, hm, hk, hb⟩ := D.ex
  refine ⟨fun pins s σ H Q I h => ?_⟩
  refine wpAny_Call_Name_kw (ld_glob I hg hm ?_ hdb)
  refine PySem.W.callWith_KW0 (h₀ := X.base) I.ok.mod.kin hk hall ?_ hpl
  refine thn (hkw.run pos pins s σ H _ I h) fun ws s2 ⟨zs, H2, I2, rz, q2⟩ => ⟨I2.kIn, ?_⟩
  rw [hks]
  exact run_fnk (us := []) (vs := []) F hr hb pass0 I2 .nil rz q2
/-- a def of one parameter, of two parameters named the other way round -/
theorem kb1 {K : PySem.W.Frag} {fd : FuncData} {a : Str} (h : ∀ v : Value, bindArgs fd ⟨[], [(a, v)]⟩ = pure [(a, v)]) : KBinds K fd [a] [a] (fun us ws => if us = [] then ws else []) (fun vs zs => if vs = [] then zs else []) := by
  refine ⟨fun s us ws X hl => ?_, fun {vs us zs ws} r rz => ?_⟩
  · cases us with
    | nil =>
      rw [if_pos rfl] at hl ⊢
      match ws, hl with
      | [v], _ => exact .of_eq (h v)
    | cons _ _ => rw [if_neg (by simp)] at hl; simp at hl
  · cases r with
    | nil => rw [if_pos rfl, if_pos rfl]; exact rz
    | cons _ _ => rw [if_neg (by simp), if_neg (by simp)]; exact .nil
theorem kb2 {K : PySem.W.Frag} {fd : FuncData} {a b : Str} (h : ∀ v w : Value, bindArgs fd ⟨[], [(b, w), (a, v)]⟩ = pure [(a, v), (b, w)]) : KBinds K fd [a, b] [b, a] (fun us ws => if us = [] then ws.reverse else []) (fun vs zs => if vs = [] then zs.reverse else []) := by
  refine ⟨fun s us ws X hl => ?_, fun {vs us zs ws} r rz => ?_⟩
  · cases us with
    | nil =>
      rw [if_pos rfl] at hl ⊢
      match ws, hl with
      | [], hl => simp at hl
      | [_], hl => simp at hl
      | _ :: _ :: _ :: _, hl => simp at hl
      | [w, v], _ => exact .of_eq (h v w)
    | cons _ _ => rw [if_neg (by simp)] at hl; simp at hl
  · have rev : ∀ {xs : List V} {us : List Value}, Vals xs us → Vals xs.reverse us.reverse := fun {xs us} r => by
      induction r with
      | nil => exact .nil
      | cons a _ ih => rw [List.reverse_cons, List.reverse_cons]; exact ih.append (.cons a .nil)
    cases r with
    | nil => rw [if_pos rfl, if_pos rfl]; exact rev rz
    | cons _ _ => rw [if_neg (by simp), if_neg (by simp)]; exact .nil
end Ls
end
section
set_option maxRecDepth 100000
set_option maxHeartbeats 4000000
namespace Ls
open PySem PySem.Spec PyProof.Rows L2
open Sx (cell)
/-! ### what is told, by one word -/
def wd (b : Bool) : Str := if b = true then Str.ofString "below" else Str.ofString "cancel"
def Vd (R EE : List (List Int)) (size : Nat) (b : Bool) : Prop := (b = true → ∃ y, Sx.Below R EE size y) ∧ (b = false → ∃ x z, Sx.Cancel R EE size x z)
section
variable {K : PySem.W.Frag} {H H' : Hp} {R EE : List (List Int)} {size : Nat} {b c : Bool} {D : Addr}
theorem told_p (t : ToldP K H D R size) : ∃ b rest, SqT K H D (.str (wd b) :: rest) ∧ Vd R [] size b := by
  rcases t with ⟨D1, y, e, _, hb⟩ | ⟨D1, x, z, e, _, hc⟩
  · exact ⟨true, _, .inl (.inl e), fun _ => ⟨y, hb⟩, (fun q => (by cases q))⟩
  · exact ⟨false, _, .inl (.inl e), (fun q => (by cases q)), fun _ => ⟨x, z, hc⟩⟩
theorem told_a (t : ToldAt K H D R EE size) : ∃ b rest, SqT K H D (.str (wd b) :: rest) ∧ Vd R EE size b := by
  rcases t with ⟨D1, y, e, _, hb⟩ | ⟨D1, D2, x, z, e, _, _, hc⟩
  · exact ⟨true, _, .inl (.inl e), fun _ => ⟨y, hb⟩, (fun q => (by cases q))⟩
  · exact ⟨false, _, .inl (.inl e), (fun q => (by cases q)), fun _ => ⟨x, z, hc⟩⟩
theorem Vd.eq (h : Vd R EE size b) (g : Vd R EE size c) : b = c := by
  cases b with
  | true =>
    cases c with
    | true => rfl
    | false =>
      obtain ⟨y, hy⟩ := h.1 rfl
      obtain ⟨x, z, hx⟩ := g.2 rfl
      exact (Sx.not_both hy hx).elim
  | false =>
    cases c with
    | false => rfl
    | true =>
      obtain ⟨y, hy⟩ := g.1 rfl
      obtain ⟨x, z, hx⟩ := h.2 rfl
      exact (Sx.not_both hy hx).elim
theorem Vd.even (h : Vd R [] size false) (g : Vd R EE size c) : c = false := by
  cases c with
  | false => rfl
  | true =>
    obtain ⟨y, hy⟩ := g.1 rfl
    obtain ⟨x, z, hx⟩ := h.2 rfl
    exact (Sx.not_both (E := []) ⟨hy.len, hy.lt, fun i hi => by simp at hi, hy.bd⟩ hx).elim
theorem Vd.less (h : Vd R [] size true) (g : Vd (R.drop 1) [] size c) : c = true := by
  cases c with
  | true => rfl
  | false =>
    obtain ⟨y, hy⟩ := h.1 rfl
    obtain ⟨x, z, hx⟩ := g.2 rfl
    refine (Sx.not_both (R := R.drop 1) (E := []) ⟨hy.len, fun i hi => ?_, fun i hi => by simp at hi, hy.bd⟩ hx).elim
    have hi2 : i < R.length - 1 := by simpa using hi
    have : Sx.row (R.drop 1) i = Sx.row R (i + 1) := by
      unfold Sx.row
      rw [List.getD_eq_getElem?_getD, List.getElem?_drop, List.getD_eq_getElem?_getD, Nat.add_comm]
    rw [this]
    exact hy.lt (i + 1) (by omega)
theorem ToldP.mono (s : Same H H') (t : ToldP K H D R size) : ToldP K H' D R size := by
  rcases t with ⟨D1, y, e, e1, hb⟩ | ⟨D1, x, z, e, e1, hc⟩
  · exact .inl ⟨D1, y, s _ _ e, Same.sqt s e1, hb⟩
  · exact .inr ⟨D1, x, z, s _ _ e, Same.sqt s e1, hc⟩
theorem ToldAt.mono (s : Same H H') (t : ToldAt K H D R EE size) : ToldAt K H' D R EE size := by
  rcases t with ⟨D1, y, e, e1, hb⟩ | ⟨D1, D2, x, z, e, e1, e2, hc⟩
  · exact .inl ⟨D1, y, s _ _ e, Same.sqt s e1, hb⟩
  · exact .inr ⟨D1, D2, x, z, s _ _ e, Same.sqt s e1, Same.sqt s e2, hc⟩
theorem eqv_ints : ∀ ns : List Int, PyData.eqvAll (ns.map PyData.int) (ns.map PyData.int) = true
  | [] => by rw [List.map_nil, PyData.eqvAll]
  | n :: r => by
    rw [List.map_cons, PyData.eqvAll, eqv_ints r, PyData.eqv]
    simp
theorem shaped_told (s : Str) (hs : PyData.strOk s = true) (ns : List Int) : SeqAt.shaped (.tuple [.str s, .tuple (ns.map PyData.int)]) = true := by
  unfold SeqAt.shaped
  simp [PyData.canLay0, PyData.canLayAll0, lay_ints, PyData.depth, PyData.depthAll, dep_ints, hs]
theorem eqv_told (s : Str) (ns : List Int) : PyData.eqv (.tuple [.str s, .tuple (ns.map PyData.int)]) (.tuple [.str s, .tuple (ns.map PyData.int)]) = true := by
  simp [PyData.eqv, PyData.eqvAll, eqv_ints]
theorem eqD_told {z D1 z1 : Addr} {s : Str} {ns : List Int} {Q : VK} (hs : PyData.strOk s = true) (h1 : SqT K H D [.str s, .ref D1]) (h2 : SqT K H D1 (ns.map V.int)) (g1 : SqT K H z [.str s, .ref z1]) (g2 : SqT K H z1 (ns.map V.int)) (q : Q (.bl true) H) : rEqD K (.ref D) (.ref z) H Q :=
  ⟨_, _, .tup h1 (.cons (.str s) (.cons (.tup h2 (dp_ints ns)) .nil)), .tup g1 (.cons (.str s) (.cons (.tup g2 (dp_ints ns)) .nil)), shaped_told s hs ns, shaped_told s hs ns, by rw [eqv_told]; exact q⟩
theorem neD_told {z D1 z1 : Addr} {s : Str} {ns : List Int} {Q : VK} (hs : PyData.strOk s = true) (h1 : SqT K H D [.str s, .ref D1]) (h2 : SqT K H D1 (ns.map V.int)) (g1 : SqT K H z [.str s, .ref z1]) (g2 : SqT K H z1 (ns.map V.int)) (q : Q (.bl false) H) : rNeD K (.ref D) (.ref z) H Q :=
  ⟨_, _, .tup h1 (.cons (.str s) (.cons (.tup h2 (dp_ints ns)) .nil)), .tup g1 (.cons (.str s) (.cons (.tup g2 (dp_ints ns)) .nil)), shaped_told s hs ns, shaped_told s hs ns, by rw [eqv_told]; exact q⟩
/-! ### rows of small numbers drawn -/
theorem draws_all {t l c : Addr} {n m : Nat} {v0 v2 v3 v4 v5 v6 v7 v8 v9 v10 v11 v12 v13 : Option V} {tM : TA} {D : Addr} {Qd : Hp → Prop} (nD : H D = none) (tape : TapeAt t l c H) (hn : n ≤ 100) (hm : m ≤ 100)
    (hM : ∀ (x : Option V) (H1 : Hp) (Q1 : List V → Hp → Prop), Q1 [.int (m : Int)] H1 → tM [v0, some (.ref t), v2, v3, v4, v5, v6, v7, v8, v9, v10, v11, x, v13] H1 Q1)
    (hd : ∀ R H', Le (tp t l c) H H' → R.length = n → (∀ r ∈ R, GoodR 1 m r) → RowsQ K (cut (tp t l c).T H') D R → Qd H') :
    ∃ W : Nat → Nat → Hp → Prop, (∃ k, W 0 k (upd H D (.lst []))) ∧ ∀ i k H1, W i k H1 →
      ((Itr 0 n).stop i H1 ∧ Qd H1) ∨ ((Itr 0 n).go i H1 ∧ ∃ Nx : Hp → Prop, (∀ H', Nx H' → ∃ k', k' < k ∧ W (i + 1) k' H') ∧ ∀ x H', (Itr 0 n).yld i H1 x H' → gName 12 x (wipe [v0, some (.ref t), v2, v3, v4, v5, v6, v7, v8, v9, v10, v11, v12, v13] [12]) H' fun σ2 H2 => wipe σ2 [12] = wipe [v0, some (.ref t), v2, v3, v4, v5, v6, v7, v8, v9, v10, v11, v12, v13] [12] ∧ tYes σ2 H2 fun b H3 =>
        if b = true then (tCB (rTupleOf K) (tCons (tLc (iRng1 tM) (gName 13) tYes (tOp (rI0 fun i j => .int (i - j)) (tCall spDraw [] E0 (tCons (tVar 1) (tCons (tC (.int 3)) tNil))) (tC (.int 1))) [13]) tNil)) σ2 H3 fun y H4 => ∃ acc, H4 D = some (.lst acc) ∧ acc.length < sizeLine ∧ Nx (upd H4 D (.lst (acc ++ [y]))) else Nx H3) := by
  refine lc_all (h := tp t l c) (walk_range (lo := 0) (n := n)) nD tape (by omega) (fun i v H => ∃ b, v = .ref b ∧ ∃ row, GoodR 1 m row ∧ SqT K H b (row.map V.int)) (fun i v H1 H2 s' ⟨b, e, row, g, q⟩ => ⟨b, e, row, g, Same.sqt s' q⟩) (fun _ _ => trivial) ?_ ?_
  · rintro i x H3 H3' hi le3 ⟨zs, hD⟩ ⟨rfl, rfl⟩ Q' kk
    have nDT : D ∉ (tp t l c).T := Hid.nin (h := tp t l c) tape nD
    refine ⟨rfl, hM _ _ _ ⟨_, rfl, by omega, by omega, ?_⟩⟩
    rw [Int.toNat_natCast]
    refine fun D2 nD2 => lc_all (h := tp t l c) (walk_range (lo := 0) (n := m)) nD2 le3.g (by omega) (fun j v _ => ∃ z : Int, v = .int z ∧ z.natAbs ≤ 1) (fun _ _ _ _ _ q => q) (fun _ _ => trivial) ?_ ?_
    · rintro j y H5 H5' hj le5 ⟨zs2, hD2⟩ ⟨rfl, rfl⟩ Q2 kk2
      have nD2T : D2 ∉ (tp t l c).T := Hid.nin (h := tp t l c) le3.g nD2
      refine ⟨rfl, .ref t, rfl, t, l, c, 3, rfl, by decide, by decide, le5.g, fun v H6 w0 w1 le6 => ⟨_, _, rfl, rfl, ?_⟩⟩
      exact kk2 _ H6 le6 ((le6.keep nD2T hD2).trans hD2.symm) ⟨_, rfl, by omega⟩
    intro H6 ys le6 e6 ly hy
    obtain ⟨row, rfl, gr⟩ := ints_ys ly hy
    refine ⟨D2, _, rfl, .inl ⟨.inl (.inl (cut_le e6)), fun q nq => ?_⟩⟩
    have hD6 := le6.keep nDT hD
    have nqF : q ≠ D := fun z => by rw [z, hD6] at nq; cases nq
    have leq := Le.new (o := .tup (row.map V.int)) le6.g nq
    refine kk (.ref q) _ (le6.trans leq) ((upd_ne (Ne.symm nqF)).trans (hD6.trans hD.symm)) ⟨q, rfl, row, gr, .inl (.inl ?_)⟩
    rw [cut_ne (by
      intro z
      rcases List.mem_cons.mp z with z | z
      · exact nqF z
      · exact Hid.nin (h := tp t l c) le6.g nq z), upd_same]
  · intro H' ys le e ly hy
    obtain ⟨R, lR, gR, hR⟩ := rows_made (h := tp t l c) e hy
    exact hd R H' le (by omega) gR hR
end
end Ls
end
section
set_option maxRecDepth 100000
set_option maxHeartbeats 8000000
namespace Ls
open PySem PySem.Spec PyProof.Rows L2
open Sx (cell)
section
variable {P : Program} {w : World} {K : PySem.W.Frag} {mg : Str → Option Value} {base : Heap} {C : Addr}
theorem good_len {R : List (List Int)} {B size : Nat} (g : ∀ r ∈ R, GoodR B size r) (i : Nat) (hi : i < R.length) : (Sx.row R i).length = size := (g _ (by unfold Sx.row; exact Sx.gd_mem hi)).1
theorem good_bd {R : List (List Int)} {B size : Nat} (g : ∀ r ∈ R, GoodR B size r) (hB : B < 2 ^ 100) (i k : Nat) : (cell R i k).natAbs < 2 ^ 100 := by
  by_cases hi : i < R.length
  · have : Sx.row R i ∈ R := by unfold Sx.row; exact Sx.gd_mem hi
    exact Nat.lt_of_le_of_lt ((g _ this).2 k) hB
  · have e0 : R.getD i [] = [] := by rw [List.getD_eq_getElem?_getD, List.getElem?_eq_none (by omega)]; rfl
    unfold Sx.cell
    rw [e0]; simp
theorem RowsQ.tup {H : Hp} {a : Addr} {R : List (List Int)} (r : RowsQ K H a R) : ∃ as : List Addr, SqL K H a (as.map V.ref) ∧ ∀ z H', Same H H' → H' z = some (.tup (as.map V.ref)) → RowsP K H' z R := by
  obtain ⟨as, h1, h2, h3⟩ := r
  exact ⟨as, h1, fun z H' s e => ⟨as, .inr (.inl (.inl e)), h2, fun i b row q1 q2 => Same.sqt s (h3 i b row q1 q2)⟩⟩
theorem rowsQ_nil {H : Hp} {e : Addr} (h : SqL K H e []) : RowsQ K H e [] := ⟨[], h, rfl, fun i b row q _ => by simp at q⟩
theorem no_len {size : Nat} (i : Nat) (hi : i < ([] : List (List Int)).length) : (Sx.row [] i).length = size := by simp at hi
theorem no_bd (i k : Nat) : (cell [] i k).natAbs < 2 ^ 100 := by
  unfold Sx.cell
  simp
theorem zero_cancel {b : Bool} (h : Vd [[0]] [] 1 b) : b = false := by
  cases b with
  | false => rfl
  | true =>
    obtain ⟨y, hy⟩ := h.1 rfl
    have h1 := hy.lt 0 (by decide)
    have : Sx.dot 1 (Sx.row [[0]] 0) y = 0 := by
      show (0 : Int) + 0 * y.getD 0 0 = 0
      omega
    omega
theorem drop_rows {H : Hp} {a : Addr} {R : List (List Int)} (r : RowsQ K H a R) : ∃ as : List Addr, SqL K H a (as.map V.ref) ∧ ∀ z H', Same H H' → H' z = some (.lst (cutV (as.map V.ref) (some 1) none)) → RowsQ K H' z (R.drop 1) := by
  obtain ⟨as, h1, h2, h3⟩ := r
  refine ⟨as, h1, fun z H' s e => ?_⟩
  rw [cut_one, ← List.map_drop] at e
  refine ⟨as.drop 1, .inl (.inl e), by simp [h2], fun i b row r1 r2 => Same.sqt s (h3 (i + 1) b row ?_ ?_)⟩
  · rw [List.getElem?_drop, Nat.add_comm] at r1; exact r1
  · rw [List.getElem?_drop, Nat.add_comm] at r2; exact r2
theorem ite_or {c : Bool} {A N : Prop} (h1 : c = true → N → A) (hN : N) : if c = true then A else N := by
  cases c with
  | false => exact hN
  | true => exact h1 rfl hN
theorem ite_orH {c : Bool} {A : Prop} {Hx : Hp} {N : Hp → Prop} (h1 : c = true → (∀ H', Same Hx H' → N H') → A) (hN : ∀ H', Same Hx H' → N H') : if c = true then A else N Hx := by
  cases c with
  | false => exact hN Hx (Same.refl _)
  | true => exact h1 rfl hN
def spLaw (K : PySem.W.Frag) : Sp := fun vs H Q _ => ∃ (a : Addr) (ns : List Int), vs = [.ref a] ∧ SqL K H a (ns.map V.int) ∧ ns.length ≤ 63 ∧ ∀ H', Q (.bl true) H'
structure DD (P : Program) (w : World) (K : PySem.W.Frag) (mg : Str → Option Value) (base : Heap) : Prop where
  D_law_begun : Df P w K mg base 1 "_law_begun" ["script"] (spBegun K)
  D_law_draw : Df P w K mg base 2 "_law_draw" ["tape", "size"] spDraw
  D_law_rows : Df P w K mg base 4 "_law_rows" ["tape", "many", "size"] (spRows K)
  D_parted : Df P w K mg base 6 "parted" ["rows"] (spParted K)
  D_parted_beside : Df P w K mg base 5 "parted_beside" ["rows", "even"] (spBeside K)
  DK_parted : DfK P w K mg base 6 "parted" ["rows"] ["rows"] (spParted K) (fun vs zs => if vs = [] then zs else [])
  DK_parted_beside : DfK P w K mg base 5 "parted_beside" ["rows", "even"] ["even", "rows"] (spBeside K) (fun vs zs => if vs = [] then zs.reverse else [])
  D_law_is_told : Df P w K mg base 2 "_law_is_told" ["rows", "even", "size", "told", "others"] (spIsTold K)
  D_law_small_right : Df P w K mg base 2 "_law_small_right" ["rows", "size", "told"] (spSmall K)
theorem ok_law {f CE : Addr} {fd : FuncData} (F : Fun K "law" "law" s_law f fd) (T : Bi mg) (hCE : mg "StepError" = some (.ref CE)) (hkit : PySem.W.kitOne K (.type "dict") (.ref CE) = some false) (DD_ : DD P w K mg base) : FnOk P w K mg base CX0 7 f fd ["script"] (spLaw K) := by
  obtain ⟨D_law_begun, D_law_draw, D_law_rows, D_parted, D_parted_beside, DK_parted, DK_parted_beside, D_law_is_told, D_law_small_right⟩ := DD_
  refine F.ok sc_law (fun vs H Q E h => ?_) (fun cdv A outer s H vs Q E hr h => ?_)
  · obtain ⟨a, ns, rfl, _⟩ := h
    rfl
  · obtain ⟨a, ns, rfl, hS, hn, k⟩ := h
    refine ⟨_, (pss_cons (ps_set (i := 1) sc_law.nd rfl (by first | exact Or.inl rfl | exact Or.inr rfl) (pe_df D_law_begun (hr.mono (by decide)) (by rfl) (pa_cons (pv 0) pa_nil)))
      (pss_cons (ps_for PassesOwn.never rfl (pi_range1 (by rfl) T.b_range (pa_cons (pe_op op_add pe_int (pe_callB (call_min2 rfl) (by rfl) T.b_min (by decide +kernel) (pa_cons (pe_callB (klen K) (by rfl) T.b_len (by decide +kernel) (pa_cons (pv 0) pa_nil)) (pa_cons pe_int pa_nil)))) pa_nil)) (pg_name (i := 2) sc_law.nd rfl (Or.inl rfl)) (pss_cons (ps_set (i := 3) sc_law.nd rfl (Or.inl rfl) (pe_df D_law_draw (hr.mono (by decide)) (by rfl) (pa_cons (pv 1) (pa_cons pe_int pa_nil))))
      (pss_cons (ps_par (i := 8) (j := 9) (by rfl) sc_law.nd rfl rfl (by decide) rfl rfl (pa_cons (pe_df D_law_rows (hr.mono (by decide)) (by rfl) (pa_cons (pv 1) (pa_cons (pe_op op_add pe_int (pe_df D_law_draw (hr.mono (by decide)) (by rfl) (pa_cons (pv 1) (pa_cons pe_int pa_nil)))) (pa_cons (pv 3) pa_nil)))) (pa_cons (pe_df D_law_rows (hr.mono (by decide)) (by rfl) (pa_cons (pv 1) (pa_cons (pe_df D_law_draw (hr.mono (by decide)) (by rfl) (pa_cons (pv 1) (pa_cons pe_int pa_nil))) (pa_cons (pv 3) pa_nil)))) pa_nil)) (by rfl))
      (pss_cons (ps_par (i := 10) (j := 11) (by rfl) sc_law.nd rfl rfl (by decide) rfl rfl (pa_cons (pe_df D_parted (hr.mono (by decide)) (by rfl) (pa_cons (pv 8) pa_nil)) (pa_cons (pe_df D_parted_beside (hr.mono (by decide)) (by rfl) (pa_cons (pv 8) (pa_cons (pv 9) pa_nil))) pa_nil)) (by rfl))
      (pss_cons (ps_if (PW.pt (pw_or (pt_not (pt_val (pe_df D_law_is_told (hr.mono (by decide)) (by rfl) (pa_cons (pv 8) (pa_cons (pe_lst pa_nil) (pa_cons (pv 3) (pa_cons (pv 10) (pa_cons pe_bl pa_nil)))))))) (pw_or (pt_not (pt_val (pe_df D_law_is_told (hr.mono (by decide)) (by rfl) (pa_cons (pv 8) (pa_cons (pv 9) (pa_cons (pv 3) (pa_cons (pv 11) (pa_cons pe_bl pa_nil)))))))) (pw_or1 (PW.pt (pw_and (pt_cmpR op_eq (pe_ix (kixT K) (pv 10) pe_int (fun _ _ => rfl)) pe_str (nomark _)) (pw_and1 (pt_cmpR op_ne (pe_ix (kixT K) (pv 11) pe_int (fun _ _ => rfl)) pe_str (nomark _))))))))) (pss_one (ps_ret pe_bl)) pss_nil)
      (pss_cons (ps_if (PW.pt (pw_or (pt_cmpR op_ne (pe_ix (kixT K) (pe_dfK DK_parted (hr.mono (by decide)) (by rfl) (pk_cons (pe_callTy (ktuple K) (by rfl) T.b_tuple (by decide +kernel) (pa_cons (pv 8) pa_nil)) pk_nil)) pe_int (fun _ _ => rfl)) (pe_ix (kixT K) (pv 10) pe_int (fun _ _ => rfl)) (nomark _)) (pw_or1 (pt_cmpR op_ne (pe_ix (kixT K) (pe_dfK DK_parted_beside (hr.mono (by decide)) (by rfl) (pk_cons (pe_callTy (ktuple K) (by rfl) T.b_tuple (by decide +kernel) (pa_cons (pv 9) pa_nil)) (pk_cons (pe_callTy (ktuple K) (by rfl) T.b_tuple (by decide +kernel) (pa_cons (pv 8) pa_nil)) pk_nil))) pe_int (fun _ _ => rfl)) (pe_ix (kixT K) (pv 11) pe_int (fun _ _ => rfl)) (nomark _))))) (pss_one (ps_ret pe_bl)) pss_nil)
      (pss_cons (ps_set (i := 4) sc_law.nd rfl (Or.inl rfl) (pe_slice (kslL K) (pv 8) (po_some pe_int) po_none))
      (pss_cons (ps_if (PW.pt (pw_and (pt_cmpR (kneD K hr.units) (pv 4) (pe_lst pa_nil) (nomark _)) (pw_and (pt_cmpR op_eq (pe_ix (kixT K) (pv 10) pe_int (fun _ _ => rfl)) pe_str (nomark _)) (pw_and1 (pt_cmpR op_ne (pe_ix (kixT K) (pe_df D_parted (hr.mono (by decide)) (by rfl) (pa_cons (pv 4) pa_nil)) pe_int (fun _ _ => rfl)) pe_str (nomark _)))))) (pss_one (ps_ret pe_bl)) pss_nil)
      (pss_cons (ps_setLc (i := 5) (own := [("row", 12)]) (g := gName 12) (tt := tYes) rfl sc_law.nd rfl rfl (sw_true rfl rfl rfl (by decide +kernel)) (pi_range1 (by rfl) T.b_range (pa_cons (pe_op op_add pe_int (pe_df D_law_draw (hr.mono (by decide)) (by rfl) (pa_cons (pv 1) (pa_cons pe_int pa_nil)))) pa_nil)) (blkOk_by (own := [("row", 12)]) (N := ["script", "tape", "lap", "size", "less", "few", "tall", "wide", "rows", "even", "told", "beside", "row", "place"]) (sc := defScope s_law) (by decide +kernel)) (fun _ _ _ _ _ => (pg_name (i := 12) sc_law.nd rfl (Or.inl rfl))) (fun _ _ _ _ _ => pts_nil) (fun _ _ _ _ _ => (pe_callTy (ktuple K) (by rfl) T.b_tuple (by decide +kernel) (pa_cons (pe_lc (own := [("place", 13)]) (g := gName 13) (tt := tYes) rfl sc_law.nd (pi_range1 (by rfl) T.b_range (pa_cons pe_int pa_nil)) (blkOk_by (own := [("place", 13)]) (N := ["script", "tape", "lap", "size", "less", "few", "tall", "wide", "rows", "even", "told", "beside", "row", "place"]) (sc := relS _ (defScope s_law)) (by decide +kernel)) (fun _ _ _ _ _ => (pg_name (i := 13) sc_law.nd rfl (Or.inl rfl))) (fun _ _ _ _ _ => pts_nil) (fun _ _ _ _ _ => (pe_op op_sub (pe_df D_law_draw (hr.mono (by decide)) (by rfl) (pa_cons (pv 1) (pa_cons pe_int pa_nil))) pe_int))) pa_nil))))
      (pss_cons (ps_if (pt_not (pt_val (pe_df D_law_small_right (hr.mono (by decide)) (by rfl) (pa_cons (pv 5) (pa_cons pe_int (pa_cons (pe_df D_parted (hr.mono (by decide)) (by rfl) (pa_cons (pv 5) pa_nil)) pa_nil)))))) (pss_one (ps_ret pe_bl)) pss_nil)
      (pss_one (ps_if (PW.pt (pw_and (pt_cmpR (kneD K hr.units) (pv 9) (pe_lst pa_nil) (nomark _)) (pw_and1 (pt_cmpR (kneD K hr.units) (pe_df D_parted_beside (hr.mono (by decide)) (by rfl) (pa_cons (pe_lst pa_nil) (pa_cons (pv 9) pa_nil))) (pe_tup (pa_cons pe_str (pa_cons (pe_op (krepO K) (pe_tup (pa_cons pe_int pa_nil)) (pv 3)) pa_nil))) (nomark _))))) (pss_one (ps_ret pe_bl)) pss_nil))))))))))))
      (pss_cons (ps_par (i := 6) (j := 7) (by rfl) sc_law.nd rfl rfl (by decide) rfl rfl (pa_cons (pe_lc (own := [("row", 12)]) (g := gName 12) (tt := tYes) rfl sc_law.nd (pi_range1 (by rfl) T.b_range (pa_cons pe_int pa_nil)) (blkOk_by (own := [("row", 12)]) (N := ["script", "tape", "lap", "size", "less", "few", "tall", "wide", "rows", "even", "told", "beside", "row", "place"]) (sc := defScope s_law) (by decide +kernel)) (fun _ _ _ _ _ => (pg_name (i := 12) sc_law.nd rfl (Or.inl rfl))) (fun _ _ _ _ _ => pts_nil) (fun _ _ _ _ _ => (pe_callTy (ktuple K) (by rfl) T.b_tuple (by decide +kernel) (pa_cons (pe_lc (own := [("place", 13)]) (g := gName 13) (tt := tYes) rfl sc_law.nd (pi_range1 (by rfl) T.b_range (pa_cons pe_int pa_nil)) (blkOk_by (own := [("place", 13)]) (N := ["script", "tape", "lap", "size", "less", "few", "tall", "wide", "rows", "even", "told", "beside", "row", "place"]) (sc := relS _ (defScope s_law)) (by decide +kernel)) (fun _ _ _ _ _ => (pg_name (i := 13) sc_law.nd rfl (Or.inl rfl))) (fun _ _ _ _ _ => pts_nil) (fun _ _ _ _ _ => (pe_op op_sub (pe_df D_law_draw (hr.mono (by decide)) (by rfl) (pa_cons (pv 1) (pa_cons pe_int pa_nil))) pe_int))) pa_nil)))) (pa_cons (pe_lc (own := [("row", 12)]) (g := gName 12) (tt := tYes) rfl sc_law.nd (pi_range1 (by rfl) T.b_range (pa_cons pe_int pa_nil)) (blkOk_by (own := [("row", 12)]) (N := ["script", "tape", "lap", "size", "less", "few", "tall", "wide", "rows", "even", "told", "beside", "row", "place"]) (sc := defScope s_law) (by decide +kernel)) (fun _ _ _ _ _ => (pg_name (i := 12) sc_law.nd rfl (Or.inl rfl))) (fun _ _ _ _ _ => pts_nil) (fun _ _ _ _ _ => (pe_callTy (ktuple K) (by rfl) T.b_tuple (by decide +kernel) (pa_cons (pe_lc (own := [("place", 13)]) (g := gName 13) (tt := tYes) rfl sc_law.nd (pi_range1 (by rfl) T.b_range (pa_cons pe_int pa_nil)) (blkOk_by (own := [("place", 13)]) (N := ["script", "tape", "lap", "size", "less", "few", "tall", "wide", "rows", "even", "told", "beside", "row", "place"]) (sc := relS _ (defScope s_law)) (by decide +kernel)) (fun _ _ _ _ _ => (pg_name (i := 13) sc_law.nd rfl (Or.inl rfl))) (fun _ _ _ _ _ => pts_nil) (fun _ _ _ _ _ => (pe_op op_sub (pe_df D_law_draw (hr.mono (by decide)) (by rfl) (pa_cons (pv 1) (pa_cons pe_int pa_nil))) pe_int))) pa_nil)))) pa_nil)) (by rfl))
      (pss_cons (ps_if (PW.pt (pw_or (pt_not (pt_val (pe_df D_law_is_told (hr.mono (by decide)) (by rfl) (pa_cons (pv 6) (pa_cons (pe_lst pa_nil) (pa_cons pe_int (pa_cons (pe_df D_parted (hr.mono (by decide)) (by rfl) (pa_cons (pv 6) pa_nil)) (pa_cons pe_bl pa_nil)))))))) (pw_or1 (pt_not (pt_val (pe_df D_law_is_told (hr.mono (by decide)) (by rfl) (pa_cons (pv 7) (pa_cons (pe_slice (kslL K) (pv 6) po_none (po_some pe_int)) (pa_cons pe_int (pa_cons (pe_df D_parted_beside (hr.mono (by decide)) (by rfl) (pa_cons (pv 7) (pa_cons (pe_lst pa_nil) pa_nil))) (pa_cons pe_bl pa_nil))))))))))) (pss_one (ps_ret pe_bl)) pss_nil)
      (pss_one (ps_ret (pe_and (pe_cmpR (keqD K hr.units) (pe_df D_parted (hr.mono (by decide)) (by rfl) (pa_cons (pe_lst pa_nil) pa_nil)) (pe_tup (pa_cons pe_str (pa_cons (pe_tup pa_nil) pa_nil))) (nomark _)) (pe_and (pe_cmpR (keqD K hr.units) (pe_df D_parted_beside (hr.mono (by decide)) (by rfl) (pa_cons (pe_lst pa_nil) (pa_cons (pe_lst pa_nil) pa_nil))) (pe_tup (pa_cons pe_str (pa_cons (pe_tup pa_nil) pa_nil))) (nomark _)) (pe_and (pe_cmpR op_eq (pe_ix (kixT K) (pe_df D_parted (hr.mono (by decide)) (by rfl) (pa_cons (pe_lst (pa_cons (pe_tup (pa_cons pe_int pa_nil)) pa_nil)) pa_nil)) pe_int (fun _ _ => rfl)) pe_str (nomark _)) (pe_one (pe_not (pe_callB (kisi K) (by rfl) T.b_isinstance (by decide +kernel) (pa_cons (pv 1) (pa_cons (pe_glob (v := .ref CE) (u := .ref CE) (by rfl) hCE rfl) pa_nil)))))))))))))), ?_⟩
    refine ⟨.ref a, rfl, a, ns, rfl, hS, by omega, fun t l c H1 s1 tape nt nl nc => ?_⟩
    refine ⟨.ref a, rfl, a, _, rfl, .inl (s1.seq hS), _, _, rfl, _, _, rfl, rfl, _, rfl, ?_, ?_, ?_⟩
    · rw [List.length_map]; split <;> omega
    · rw [List.length_map]; split <;> omega
    refine for_it (walk_range (lo := 0) (n := _)) (fun i σ H2 => ∃ v2 v3 v4 v5 v8 v9 v10 v11, σ = [some (.ref a), some (.ref t), v2, v3, v4, v5, none, none, v8, v9, v10, v11, none, none] ∧ TapeAt t l c H2)
      ⟨none, none, none, none, none, none, none, none, rfl, tape⟩ (fun _ _ _ _ _ => trivial) ?_ ?_
    · rintro i x σ H2 H2' hi ⟨v2, v3, v4, v5, v8, v9, v10, v11, rfl, tape2⟩ ⟨rfl, rfl⟩
      have pB : bigB < 2 ^ 100 := by decide
      have p1 : (1 : Nat) < 2 ^ 100 := by decide
      have w0 : ∀ (b : Bool) (rest : List V), atI (V.str (wd b) :: rest) 0 = some (.str (wd b)) := fun b rest => atI_nat (j := 0) rfl
      refine ⟨.ref t, rfl, t, l, c, 9, rfl, by decide, by decide, tape2, fun sz H3 z0 z1 le3 => ?_⟩
      obtain ⟨size, rfl⟩ : ∃ n : Nat, sz = (n : Int) := ⟨sz.toNat, by omega⟩
      refine ⟨.ref t, rfl, .ref t, rfl, t, l, c, 12, rfl, by decide, by decide, le3.g, fun m H4 m0 m1 le4 => ?_⟩
      obtain ⟨m, rfl⟩ : ∃ n : Nat, m = (n : Int) := ⟨m.toNat, by omega⟩
      refine ⟨_, _, rfl, rfl, _, rfl, t, l, c, 1 + m, size, ?_, by omega, by omega, le4.g, fun Ra R H5 nRa lR gR hR le5 => ?_⟩
      · show [V.ref t, V.int (1 + (m : Int)), V.int (size : Int)] = [V.ref t, V.int ((1 + m : Nat) : Int), V.int (size : Int)]
        rw [show ((1 + m : Nat) : Int) = 1 + (m : Int) by omega]
      refine ⟨_, rfl, _, rfl, t, l, c, 5, rfl, by decide, by decide, le5.g, fun m2 H6 m20 m21 le6 => ?_⟩
      obtain ⟨m2, rfl⟩ : ∃ n : Nat, m2 = (n : Int) := ⟨m2.toNat, by omega⟩
      refine ⟨_, rfl, t, l, c, m2, size, rfl, by omega, by omega, le6.g, fun Ea EE H7 nEa lE gE hE le7 => ⟨_, _, rfl, ?_⟩⟩
      have hR7 : RowsQ K H7 Ra R := (hR.mono (le6.trans le7).s).mono cut_same
      have hE7 : RowsQ K H7 Ea EE := hE.mono cut_same
      have tape7 := le7.g
      have lenR := good_len gR
      have lenE := good_len gE
      have bdR := good_bd gR pB
      have bdE := good_bd gE pB
      have neR : R ≠ [] := fun z => by rw [z] at lR; simp at lR; omega
      refine ⟨_, rfl, Ra, R, size, rfl, lenR, by omega, by omega, .inr ⟨neR, hR7.p, bdR, fun D1 H8 s8 told1 => ?_⟩⟩
      refine ⟨_, rfl, _, rfl, Ra, Ea, R, EE, size, rfl, (hE7.mono s8).p, lenR, lenE, by omega, by omega, .inr ⟨neR, (hR7.mono s8).p, bdR, bdE, fun D2 H9 s9 told2 => ⟨_, _, rfl, ?_⟩⟩⟩
      have t9 := s8.trans s9
      refine ⟨_, rfl, Nat.zero_le _, fun e1 ne1 => ?_⟩
      have s10 := same_new (o := .lst []) ne1
      have t10 := t9.trans s10
      refine ⟨_, rfl, _, rfl, Ra, e1, D1, R, [], size, false, rfl, hR7.mono t10, rowsQ_nil (.inl (.inl upd_same)), lenR, no_len, by omega, by omega, by decide, bdR, no_bd, .inr ⟨rfl, rfl, told1.mono (s9.trans s10)⟩, fun H11 s11 => ⟨_, rfl, iteF ?_⟩⟩
      have t11 := t10.trans s11
      have q11 := s10.trans s11
      refine ⟨_, rfl, _, rfl, _, rfl, _, rfl, Ra, Ea, D2, R, EE, size, true, rfl, hR7.mono t11, hE7.mono t11, lenR, lenE, by omega, by omega, by omega, bdR, bdE, .inl ⟨rfl, told2.mono q11⟩, fun H12 s12 => ⟨_, rfl, iteF ?_⟩⟩
      have t12 := t11.trans s12
      have q12 := q11.trans s12
      obtain ⟨b1, rest1, td1, vd1⟩ := told_p (told1.mono (s9.trans q12))
      obtain ⟨b2, rest2, td2, vd2⟩ := told_a (told2.mono q12)
      refine ⟨.ref D1, rfl, D1, _, _, .str (wd b1), rfl, rfl, td1, w0 _ _, rfl, _, rfl, ?_⟩
      refine ite_or (fun hc hN => ?_) ?_
      · have eb : b1 = false := by
          cases b1 with
          | false => rfl
          | true => exact absurd hc (by decide +kernel)
        subst eb
        have := Vd.even vd1 vd2
        subst this
        exact ⟨.ref D2, rfl, D2, _, _, .str (wd false), rfl, rfl, td2, w0 _ _, rfl, _, rfl, iteF hN⟩
      refine iteF ?_
      have ne_wd : ∀ b : Bool, (!decide (V.str (wd b) = V.str (wd b))) = false := fun b => by rw [decide_eq_true rfl]; rfl
      obtain ⟨asR, qR, upR⟩ := (hR7.mono t12).tup
      refine ⟨_, rfl, Ra, _, rfl, .inl ⟨qR, fun zr nzr => ?_⟩⟩
      have s13 := same_new (o := .tup (asR.map V.ref)) nzr
      refine ⟨zr, R, size, if_pos rfl, lenR, by omega, by omega, .inr ⟨neR, upR zr _ s13 upd_same, bdR, fun D3 H14 s14 told3 => ?_⟩⟩
      obtain ⟨b3, rest3, td3, vd3⟩ := told_p told3
      have eb3 := vd3.eq vd1
      subst eb3
      have t14 := s13.trans s14
      refine ⟨D3, _, _, .str (wd b3), rfl, rfl, td3, w0 _ _, .ref D1, rfl, D1, _, _, .str (wd b3), rfl, rfl, Same.sqt t14 td1, w0 _ _, rfl, _, rfl, ?_⟩
      rw [ne_wd]
      refine iteF ?_
      have t15 := t12.trans t14
      obtain ⟨asE, qE, upE⟩ := (hE7.mono t15).tup
      refine ⟨_, rfl, Ea, _, rfl, .inl ⟨qE, fun ze nze => ?_⟩⟩
      have s16 := same_new (o := .tup (asE.map V.ref)) nze
      have t16 := t15.trans s16
      obtain ⟨asR2, qR2, upR2⟩ := (hR7.mono t16).tup
      refine ⟨_, rfl, Ra, _, rfl, .inl ⟨qR2, fun zr2 nzr2 => ?_⟩⟩
      have s17 := same_new (o := .tup (asR2.map V.ref)) nzr2
      refine ⟨zr2, ze, R, EE, size, if_pos rfl, upE ze _ (s16.trans s17) (s17 _ _ upd_same), lenR, lenE, by omega, by omega, .inr ⟨neR, upR2 zr2 _ s17 upd_same, bdR, bdE, fun D4 H18 s18 told4 => ?_⟩⟩
      obtain ⟨b4, rest4, td4, vd4⟩ := told_a told4
      have eb4 := vd4.eq vd2
      subst eb4
      have t18 := (t14.trans s16).trans (s17.trans s18)
      refine ⟨D4, _, _, .str (wd b4), rfl, rfl, td4, w0 _ _, .ref D2, rfl, D2, _, _, .str (wd b4), rfl, rfl, Same.sqt t18 td2, w0 _ _, rfl, _, rfl, ?_⟩
      rw [ne_wd]
      refine iteF ?_
      have u18 := t12.trans t18
      obtain ⟨asL, qL, upL⟩ := drop_rows (hR7.mono u18)
      refine ⟨_, rfl, _, rfl, Ra, _, rfl, qL, fun Ls nLs => ?_⟩
      have s19 := same_new (o := .lst (cutV (asL.map V.ref) (some 1) none)) nLs
      have hL := upL Ls _ s19 upd_same
      have u19 := u18.trans s19
      refine ⟨_, rfl, Nat.zero_le _, fun e2 ne2 => ?_⟩
      have s20 := same_new (o := .lst []) ne2
      obtain ⟨asM, qM, q2, q3⟩ := hL.mono s20
      have u20 := u19.trans s20
      have e2s : SqL K (upd (upd H18 Ls (.lst (cutV (asL.map V.ref) (some 1) none))) e2 (.lst [])) e2 [] := .inl (.inl upd_same)
      have hL20 := hL.mono s20
      generalize (upd (upd H18 Ls (.lst (cutV (asL.map V.ref) (some 1) none))) e2 (.lst [])) = Hx at *
      refine neD_rows qM q2 q3 e2s ⟨_, rfl, ?_⟩
      have s19x : Same H18 Hx := s19.trans s20
      by_cases hc : R.drop 1 = []
      · rw [hc]
        refine iteF ?_
        have u21 := u20.trans (Same.refl Hx)
        have tape21 : TapeAt t l c Hx := (Le.of (h := tp t l c) tape7 (t12.trans ((t18.trans (s19x.trans (Same.refl Hx)))))).g
        refine ⟨.ref t, rfl, t, l, c, 3, rfl, by decide, by decide, tape21, fun v H22 w1 w2 le22 => ⟨_, _, rfl, rfl, _, rfl, by omega, by omega, ?_⟩⟩
        obtain ⟨v, rfl⟩ : ∃ n : Nat, v = (n : Int) := ⟨v.toNat, by omega⟩
        rw [show (1 + (v : Int)).toNat = 1 + v by omega]
        refine fun Fa nFa => draws_all (t := t) (l := l) (c := c) (n := 1 + v) (m := 2) (tM := tCons (tC (.int 2)) tNil) nFa le22.g (by omega) (by decide) (fun _ _ _ q => q) fun RF H23 le23 lF gF hF => ?_
        have hF23 : RowsQ K H23 Fa RF := hF.mono cut_same
        have neF : RF ≠ [] := fun z => by rw [z] at lF; simp at lF; omega
        refine ⟨_, rfl, _, rfl, Fa, RF, 2, rfl, good_len gF, by decide, by omega, .inr ⟨neF, hF23.p, good_bd gF p1, fun D6 H24 s24 told6 => ?_⟩⟩
        refine ⟨Fa, D6, RF, 2, rfl, hF23.mono s24, by omega, good_len gF, by decide, good_bd gF p1, told6, fun H25 s25 => ⟨_, rfl, iteF ?_⟩⟩
        have leT := le22.trans le23
        have tape25 : TapeAt t l c H25 := (Le.of (h := tp t l c) le23.g (s24.trans s25)).g
        have hE25 : RowsQ K H25 Ea EE := ((hE.mono ((cut_mono u21).trans (leT.s.trans (cut_mono (s24.trans s25)))))).mono cut_same
        refine ⟨_, rfl, Nat.zero_le _, fun e3 ne3 => ?_⟩
        have s26 := same_new (o := .lst []) ne3
        obtain ⟨asE2, qE2, r2, r3⟩ := hE25.mono s26
        have e3s : ∀ Hy : Hp, SqL K (upd Hy e3 (.lst [])) e3 [] := fun Hy => .inl (.inl upd_same)
        have tape26 : TapeAt t l c (upd H25 e3 (.lst [])) := (Le.of (h := tp t l c) tape25 s26).g
        refine neD_rows qE2 r2 r3 (e3s _) ⟨_, rfl, ?_⟩
        cases EE with
        | nil => exact iteF ⟨_, _, _, _, _, _, _, _, rfl, tape26⟩
        | cons r0 rs =>
          refine iteT ⟨Nat.zero_le _, fun e4 ne4 => ?_⟩
          have s27 := same_new (o := .lst []) ne4
          refine ⟨_, rfl, e4, Ea, [], r0 :: rs, size, rfl, ((hE25.mono s26).mono s27).p, no_len, lenE, by omega, by simp at lE ⊢; omega, .inl ⟨rfl, .inl (.inl upd_same), (hE25.mono s26).mono s27, fun D7 D8 H28 s28 eD eD8 => ?_⟩⟩
          refine ⟨by show 1 ≤ sizeLine; decide, fun p np => ⟨_, rfl, p, size, .int 0, rfl, rfl, upd_same, by omega, fun q Hq sq eq => ⟨by show 2 ≤ sizeLine; decide, fun z nz => ?_⟩⟩⟩
          have s29 := same_new (o := .tup [.int 0]) np
          have s30 := same_new (o := .tup [strV "below", .ref q]) nz
          rw [if_neg (by simp)] at eD8
          have er : List.replicate size (V.int 0) = (List.replicate size (0 : Int)).map V.int := by rw [List.map_replicate]
          rw [er] at eq
          refine neD_told (s := Str.ofString "below") (ns := List.replicate size 0) (by decide +kernel) (.inl (.inl (s30 _ _ (sq _ _ (s29 _ _ eD))))) (Same.sqt (s29.trans (sq.trans s30)) eD8) (.inl (.inl upd_same)) (Same.sqt s30 eq) ⟨_, rfl, iteF ?_⟩
          exact ⟨_, _, _, _, _, _, _, _, rfl, (Le.of (h := tp t l c) tape26 (s27.trans (s28.trans (s29.trans (sq.trans s30))))).g⟩
      · rw [show (!(R.drop 1).isEmpty) = true by
          cases q : R.drop 1 with
          | nil => exact absurd q hc
          | cons _ _ => rfl]
        refine iteT ⟨.ref D1, rfl, D1, _, _, .str (wd b3), rfl, rfl, Same.sqt (t18.trans (s19.trans s20)) td1, w0 _ _, rfl, _, rfl, ?_⟩
        cases b3 with
        | false =>
          refine iteF ?_
          have u21 := u20.trans (Same.refl Hx)
          have tape21 : TapeAt t l c Hx := (Le.of (h := tp t l c) tape7 (t12.trans ((t18.trans (s19x.trans (Same.refl Hx)))))).g
          refine ⟨.ref t, rfl, t, l, c, 3, rfl, by decide, by decide, tape21, fun v H22 w1 w2 le22 => ⟨_, _, rfl, rfl, _, rfl, by omega, by omega, ?_⟩⟩
          obtain ⟨v, rfl⟩ : ∃ n : Nat, v = (n : Int) := ⟨v.toNat, by omega⟩
          rw [show (1 + (v : Int)).toNat = 1 + v by omega]
          refine fun Fa nFa => draws_all (t := t) (l := l) (c := c) (n := 1 + v) (m := 2) (tM := tCons (tC (.int 2)) tNil) nFa le22.g (by omega) (by decide) (fun _ _ _ q => q) fun RF H23 le23 lF gF hF => ?_
          have hF23 : RowsQ K H23 Fa RF := hF.mono cut_same
          have neF : RF ≠ [] := fun z => by rw [z] at lF; simp at lF; omega
          refine ⟨_, rfl, _, rfl, Fa, RF, 2, rfl, good_len gF, by decide, by omega, .inr ⟨neF, hF23.p, good_bd gF p1, fun D6 H24 s24 told6 => ?_⟩⟩
          refine ⟨Fa, D6, RF, 2, rfl, hF23.mono s24, by omega, good_len gF, by decide, good_bd gF p1, told6, fun H25 s25 => ⟨_, rfl, iteF ?_⟩⟩
          have leT := le22.trans le23
          have tape25 : TapeAt t l c H25 := (Le.of (h := tp t l c) le23.g (s24.trans s25)).g
          have hE25 : RowsQ K H25 Ea EE := ((hE.mono ((cut_mono u21).trans (leT.s.trans (cut_mono (s24.trans s25)))))).mono cut_same
          refine ⟨_, rfl, Nat.zero_le _, fun e3 ne3 => ?_⟩
          have s26 := same_new (o := .lst []) ne3
          obtain ⟨asE2, qE2, r2, r3⟩ := hE25.mono s26
          have e3s : ∀ Hy : Hp, SqL K (upd Hy e3 (.lst [])) e3 [] := fun Hy => .inl (.inl upd_same)
          have tape26 : TapeAt t l c (upd H25 e3 (.lst [])) := (Le.of (h := tp t l c) tape25 s26).g
          refine neD_rows qE2 r2 r3 (e3s _) ⟨_, rfl, ?_⟩
          cases EE with
          | nil => exact iteF ⟨_, _, _, _, _, _, _, _, rfl, tape26⟩
          | cons r0 rs =>
            refine iteT ⟨Nat.zero_le _, fun e4 ne4 => ?_⟩
            have s27 := same_new (o := .lst []) ne4
            refine ⟨_, rfl, e4, Ea, [], r0 :: rs, size, rfl, ((hE25.mono s26).mono s27).p, no_len, lenE, by omega, by simp at lE ⊢; omega, .inl ⟨rfl, .inl (.inl upd_same), (hE25.mono s26).mono s27, fun D7 D8 H28 s28 eD eD8 => ?_⟩⟩
            refine ⟨by show 1 ≤ sizeLine; decide, fun p np => ⟨_, rfl, p, size, .int 0, rfl, rfl, upd_same, by omega, fun q Hq sq eq => ⟨by show 2 ≤ sizeLine; decide, fun z nz => ?_⟩⟩⟩
            have s29 := same_new (o := .tup [.int 0]) np
            have s30 := same_new (o := .tup [strV "below", .ref q]) nz
            rw [if_neg (by simp)] at eD8
            have er : List.replicate size (V.int 0) = (List.replicate size (0 : Int)).map V.int := by rw [List.map_replicate]
            rw [er] at eq
            refine neD_told (s := Str.ofString "below") (ns := List.replicate size 0) (by decide +kernel) (.inl (.inl (s30 _ _ (sq _ _ (s29 _ _ eD))))) (Same.sqt (s29.trans (sq.trans s30)) eD8) (.inl (.inl upd_same)) (Same.sqt s30 eq) ⟨_, rfl, iteF ?_⟩
            exact ⟨_, _, _, _, _, _, _, _, rfl, (Le.of (h := tp t l c) tape26 (s27.trans (s28.trans (s29.trans (sq.trans s30))))).g⟩
        | true =>
          have gD : ∀ r ∈ R.drop 1, GoodR bigB size r := fun r hr => gR r (List.mem_of_mem_drop hr)
          refine iteT ⟨_, rfl, Ls, R.drop 1, size, rfl, good_len gD, by omega, by rw [List.length_drop]; omega, .inr ⟨hc, hL20.p, good_bd gD pB, fun D5 H21 s21 told5 => ?_⟩⟩
          obtain ⟨b5, rest5, td5, vd5⟩ := told_p told5
          have eb5 := vd3.less vd5
          subst eb5
          refine ⟨D5, _, _, .str (wd true), rfl, rfl, td5, w0 _ _, rfl, _, rfl, ?_⟩
          refine iteF ?_
          have u21 := u20.trans s21
          have tape21 : TapeAt t l c H21 := (Le.of (h := tp t l c) tape7 (t12.trans ((t18.trans (s19x.trans s21))))).g
          refine ⟨.ref t, rfl, t, l, c, 3, rfl, by decide, by decide, tape21, fun v H22 w1 w2 le22 => ⟨_, _, rfl, rfl, _, rfl, by omega, by omega, ?_⟩⟩
          obtain ⟨v, rfl⟩ : ∃ n : Nat, v = (n : Int) := ⟨v.toNat, by omega⟩
          rw [show (1 + (v : Int)).toNat = 1 + v by omega]
          refine fun Fa nFa => draws_all (t := t) (l := l) (c := c) (n := 1 + v) (m := 2) (tM := tCons (tC (.int 2)) tNil) nFa le22.g (by omega) (by decide) (fun _ _ _ q => q) fun RF H23 le23 lF gF hF => ?_
          have hF23 : RowsQ K H23 Fa RF := hF.mono cut_same
          have neF : RF ≠ [] := fun z => by rw [z] at lF; simp at lF; omega
          refine ⟨_, rfl, _, rfl, Fa, RF, 2, rfl, good_len gF, by decide, by omega, .inr ⟨neF, hF23.p, good_bd gF p1, fun D6 H24 s24 told6 => ?_⟩⟩
          refine ⟨Fa, D6, RF, 2, rfl, hF23.mono s24, by omega, good_len gF, by decide, good_bd gF p1, told6, fun H25 s25 => ⟨_, rfl, iteF ?_⟩⟩
          have leT := le22.trans le23
          have tape25 : TapeAt t l c H25 := (Le.of (h := tp t l c) le23.g (s24.trans s25)).g
          have hE25 : RowsQ K H25 Ea EE := ((hE.mono ((cut_mono u21).trans (leT.s.trans (cut_mono (s24.trans s25)))))).mono cut_same
          refine ⟨_, rfl, Nat.zero_le _, fun e3 ne3 => ?_⟩
          have s26 := same_new (o := .lst []) ne3
          obtain ⟨asE2, qE2, r2, r3⟩ := hE25.mono s26
          have e3s : ∀ Hy : Hp, SqL K (upd Hy e3 (.lst [])) e3 [] := fun Hy => .inl (.inl upd_same)
          have tape26 : TapeAt t l c (upd H25 e3 (.lst [])) := (Le.of (h := tp t l c) tape25 s26).g
          refine neD_rows qE2 r2 r3 (e3s _) ⟨_, rfl, ?_⟩
          cases EE with
          | nil => exact iteF ⟨_, _, _, _, _, _, _, _, rfl, tape26⟩
          | cons r0 rs =>
            refine iteT ⟨Nat.zero_le _, fun e4 ne4 => ?_⟩
            have s27 := same_new (o := .lst []) ne4
            refine ⟨_, rfl, e4, Ea, [], r0 :: rs, size, rfl, ((hE25.mono s26).mono s27).p, no_len, lenE, by omega, by simp at lE ⊢; omega, .inl ⟨rfl, .inl (.inl upd_same), (hE25.mono s26).mono s27, fun D7 D8 H28 s28 eD eD8 => ?_⟩⟩
            refine ⟨by show 1 ≤ sizeLine; decide, fun p np => ⟨_, rfl, p, size, .int 0, rfl, rfl, upd_same, by omega, fun q Hq sq eq => ⟨by show 2 ≤ sizeLine; decide, fun z nz => ?_⟩⟩⟩
            have s29 := same_new (o := .tup [.int 0]) np
            have s30 := same_new (o := .tup [strV "below", .ref q]) nz
            rw [if_neg (by simp)] at eD8
            have er : List.replicate size (V.int 0) = (List.replicate size (0 : Int)).map V.int := by rw [List.map_replicate]
            rw [er] at eq
            refine neD_told (s := Str.ofString "below") (ns := List.replicate size 0) (by decide +kernel) (.inl (.inl (s30 _ _ (sq _ _ (s29 _ _ eD))))) (Same.sqt (s29.trans (sq.trans s30)) eD8) (.inl (.inl upd_same)) (Same.sqt s30 eq) ⟨_, rfl, iteF ?_⟩
            exact ⟨_, _, _, _, _, _, _, _, rfl, (Le.of (h := tp t l c) tape26 (s27.trans (s28.trans (s29.trans (sq.trans s30))))).g⟩
    · rintro σ H2 ⟨v2, v3, v4, v5, v8, v9, v10, v11, rfl, tape2⟩
      have p30 : (1 : Nat) < 2 ^ 100 := by decide
      refine ⟨_, rfl, by decide, by decide, ?_⟩
      refine fun Ta nTa => draws_all (t := t) (l := l) (c := c) (n := 40) (m := 5) (tM := tCons (tC (.int 5)) tNil) nTa tape2 (by decide) (by decide) (fun _ _ _ q => q) fun RT H3 le3 lRT gRT hRT => ?_
      refine ⟨_, rfl, by decide, by decide, ?_⟩
      refine fun Wi nWi => draws_all (t := t) (l := l) (c := c) (n := 6) (m := 20) (tM := tCons (tC (.int 20)) tNil) nWi le3.g (by decide) (by decide) (fun _ _ _ q => q) fun RW H4 le4 lRW gRW hRW => ⟨_, _, rfl, ?_⟩
      have hRT4 : RowsQ K H4 Ta RT := (hRT.mono le4.s).mono cut_same
      have hRW4 : RowsQ K H4 Wi RW := hRW.mono cut_same
      have neT : RT ≠ [] := fun z => by rw [z] at lRT; cases lRT
      have neW : RW ≠ [] := fun z => by rw [z] at lRW; cases lRW
      have et4 : ∃ r n, H4 t = some (.dK (tapeD l c r n)) := by
        obtain ⟨r, n, _, _, e, _⟩ := le4.g
        exact ⟨r, n, e⟩
      obtain ⟨rr, nn, et4⟩ := et4
      refine ⟨_, rfl, Nat.zero_le _, fun e1 ne1 => ?_⟩
      have s5 := same_new (o := .lst []) ne1
      refine ⟨_, rfl, Ta, RT, 5, rfl, good_len gRT, by decide, by omega, .inr ⟨neT, (hRT4.mono s5).p, good_bd gRT p30, fun D1 H5 s5' told1 => ?_⟩⟩
      have s6 := s5.trans s5'
      refine ⟨Ta, e1, D1, RT, [], 5, false, rfl, hRT4.mono s6, (rowsQ_nil (.inl (.inl upd_same))).mono s5', good_len gRT, no_len, by decide, by omega, by decide, good_bd gRT p30, no_bd, .inr ⟨rfl, rfl, told1⟩, fun H6 s6' => ⟨_, rfl, iteF ?_⟩⟩
      have s7 := s6.trans s6'
      obtain ⟨ats, qT, _⟩ := (hRT4.mono s7).tup
      refine ⟨_, rfl, _, rfl, _, rfl, Ta, _, rfl, qT, fun e2 ne2 => ?_⟩
      have s8 := same_new (o := .lst (cutV (ats.map V.ref) none (some 0))) ne2
      have ec0 : cutV (ats.map V.ref) none (some 0) = [] := by
        unfold cutV
        rw [show HT.sIx (ats.map V.ref).length (ats.map V.ref).length (some 0) = min 0 (ats.map V.ref).length from HT.sIx_nat _ _ 0]
        simp
      have s9 := s7.trans s8
      refine ⟨_, rfl, Nat.zero_le _, fun e3 ne3 => ?_⟩
      have s10 := same_new (o := .lst []) ne3
      have s11 := s9.trans s10
      refine ⟨Wi, e3, RW, [], 20, rfl, (rowsQ_nil (.inl (.inl upd_same))).p, good_len gRW, no_len, by decide, by simp; omega, .inr ⟨neW, (hRW4.mono s11).p, good_bd gRW p30, no_bd, fun D3 H7 s7' told3 => ?_⟩⟩
      have s12 := s11.trans s7'
      refine ⟨Wi, e2, D3, RW, [], 20, true, rfl, hRW4.mono s12, ((rowsQ_nil (.inl (.inl (by rw [← ec0]; exact upd_same)))).mono s10).mono s7', good_len gRW, no_len, by decide, by omega, by decide, good_bd gRW p30, no_bd, .inl ⟨rfl, told3⟩, fun H8 s8' => ⟨_, rfl, iteF ?_⟩⟩
      have s13 := s12.trans s8'
      have bok : PyData.strOk (Str.ofString "below") = true := by decide +kernel
      refine ⟨Nat.zero_le _, fun e4 ne4 => ?_⟩
      have s14 := same_new (o := .lst []) ne4
      refine ⟨e4, [], 0, rfl, no_len, by decide, by decide, .inl ⟨rfl, .inl (.inl upd_same), fun D4 D5 H9 s9' eD eD5 => ?_⟩⟩
      refine ⟨Nat.zero_le _, fun p np => ⟨by show 2 ≤ sizeLine; decide, fun z nz => ?_⟩⟩
      have sp := same_new (o := .tup []) np
      have sz := same_new (o := .tup [strV "below", .ref p]) nz
      refine eqD_told (ns := []) bok (.inl (.inl ((sp.trans sz) _ _ eD))) (Same.sqt (sp.trans sz) eD5) (.inl (.inl upd_same)) (.inl (.inl (sz _ _ upd_same))) ⟨_, rfl, iteT ?_⟩
      have s15 := (((s13.trans s14).trans s9').trans sp).trans sz
      refine ⟨Nat.zero_le _, fun e5 ne5 => ⟨Nat.zero_le _, fun e6 ne6 => ?_⟩⟩
      have s16 := same_new (o := .lst []) ne5
      have s17 := same_new (o := .lst []) ne6
      have q6 : ∀ Hx : Hp, RowsQ K (upd Hx e6 (.lst [])) e6 [] := fun Hx => rowsQ_nil (.inl (.inl upd_same))
      refine ⟨e5, e6, [], [], 0, rfl, (q6 _).p, no_len, no_len, by decide, by decide, .inl ⟨rfl, .inl (.inl (s17 _ _ upd_same)), q6 _, fun D6 D7 H10 s10' eD6 eD7 => ?_⟩⟩
      refine ⟨Nat.zero_le _, fun p2 np2 => ⟨by show 2 ≤ sizeLine; decide, fun z2 nz2 => ?_⟩⟩
      have sp2 := same_new (o := .tup []) np2
      have sz2 := same_new (o := .tup [strV "below", .ref p2]) nz2
      refine eqD_told (ns := []) bok (.inl (.inl ((sp2.trans sz2) _ _ eD6))) (Same.sqt (sp2.trans sz2) (by rw [if_pos rfl] at eD7; exact eD7)) (.inl (.inl upd_same)) (.inl (.inl (sz2 _ _ upd_same))) ⟨_, rfl, iteT ?_⟩
      have s18 := ((((s15.trans s16).trans s17).trans s10').trans sp2).trans sz2
      refine ⟨by show 1 ≤ sizeLine; decide, fun p3 np3 => ⟨by show 1 ≤ sizeLine; decide, fun q3 nq3 => ?_⟩⟩
      have sp3 := same_new (o := .tup [.int 0]) np3
      have sq3 := same_new (o := .lst [.ref p3]) nq3
      have npq : p3 ≠ q3 := fun z => by rw [← z, upd_same] at nq3; cases nq3
      have rz : ∀ Hx : Hp, RowsQ K (upd (upd Hx p3 (.tup [.int 0])) q3 (.lst [.ref p3])) q3 [[0]] := fun Hx => ⟨[p3], .inl (.inl upd_same), rfl, fun i b row r1 r2 => by
        cases i with
        | zero =>
          simp at r1 r2
          subst r1 r2
          exact .inl (.inl ((upd_ne npq).trans upd_same))
        | succ i => simp at r1⟩
      refine ⟨q3, [[0]], 1, rfl, fun i hi => ?_, by decide, by decide, .inr ⟨by simp, (rz _).p, fun i k2 => ?_, fun D8 H11 s11' told8 => ?_⟩⟩
      · have : i = 0 := by simpa using hi
        subst this; rfl
      · cases i with
        | zero =>
          cases k2 with
          | zero => show (0 : Int).natAbs < 2 ^ 100; decide
          | succ k2 => show (([0] : List Int).getD (k2 + 1) 0).natAbs < 2 ^ 100; simp
        | succ i => show ((([[0]] : List (List Int)).getD (i + 1) []).getD k2 0).natAbs < 2 ^ 100; simp
      obtain ⟨b8, rest8, td8, vd8⟩ := told_p told8
      have eb8 := zero_cancel vd8
      subst eb8
      have at8 : atI (V.str (wd false) :: rest8) 0 = some (.str (wd false)) := atI_nat (j := 0) rfl
      refine ⟨D8, _, _, .str (wd false), rfl, rfl, td8, at8, rfl, _, rfl, iteT ?_⟩
      have s19 := ((s18.trans sp3).trans sq3).trans s11'
      exact ⟨.ref t, rfl, .ref t, .ref CE, _, _, false, rfl, .own CE, .base (.dK (s19 _ _ et4)), hkit, false, rfl, k _⟩
end
end Ls
end
section
set_option maxRecDepth 100000
set_option maxHeartbeats 8000000
namespace Ls
open PySem PySem.Spec PyProof.Rows L2

/-- what the top has written of a def -/
theorem all_mk {l : PySem.W.OpenLaw} {w : World} {K : PySem.W.Frag} {h : Heap} {mg : Str → Option Value} {fa C CE : Addr} (X : K.In h) (G : h.Ns mainGlobals mg) (hfa : mg "law" = some (.ref fa))
    {f0 : Addr} {od0 an0 : Option Addr} {sl0 : Array (Option Value)} {oc0 kV0 dc0 pm0 cd0 ct0 : Value}
    {f1 : Addr} {od1 an1 : Option Addr} {sl1 : Array (Option Value)} {oc1 kV1 dc1 pm1 cd1 ct1 : Value}
    {f2 : Addr} {od2 an2 : Option Addr} {sl2 : Array (Option Value)} {oc2 kV2 dc2 pm2 cd2 ct2 : Value}
    {f3 : Addr} {od3 an3 : Option Addr} {sl3 : Array (Option Value)} {oc3 kV3 dc3 pm3 cd3 ct3 : Value}
    {f4 : Addr} {od4 an4 : Option Addr} {sl4 : Array (Option Value)} {oc4 kV4 dc4 pm4 cd4 ct4 : Value}
    {f5 : Addr} {od5 an5 : Option Addr} {sl5 : Array (Option Value)} {oc5 kV5 dc5 pm5 cd5 ct5 : Value}
    {f6 : Addr} {od6 an6 : Option Addr} {sl6 : Array (Option Value)} {oc6 kV6 dc6 pm6 cd6 ct6 : Value}
    {f7 : Addr} {od7 an7 : Option Addr} {sl7 : Array (Option Value)} {oc7 kV7 dc7 pm7 cd7 ct7 : Value}
    {f8 : Addr} {od8 an8 : Option Addr} {sl8 : Array (Option Value)} {oc8 kV8 dc8 pm8 cd8 ct8 : Value}
    {f9 : Addr} {od9 an9 : Option Addr} {sl9 : Array (Option Value)} {oc9 kV9 dc9 pm9 cd9 ct9 : Value}
    {f10 : Addr} {od10 an10 : Option Addr} {sl10 : Array (Option Value)} {oc10 kV10 dc10 pm10 cd10 ct10 : Value}
    {f11 : Addr} {od11 an11 : Option Addr} {sl11 : Array (Option Value)} {oc11 kV11 dc11 pm11 cd11 ct11 : Value}
    {f12 : Addr} {od12 an12 : Option Addr} {sl12 : Array (Option Value)} {oc12 kV12 dc12 pm12 cd12 ct12 : Value}
    {f13 : Addr} {od13 an13 : Option Addr} {sl13 : Array (Option Value)} {oc13 kV13 dc13 pm13 cd13 ct13 : Value}
    {f14 : Addr} {od14 an14 : Option Addr} {sl14 : Array (Option Value)} {oc14 kV14 dc14 pm14 cd14 ct14 : Value}
    {f15 : Addr} {od15 an15 : Option Addr} {sl15 : Array (Option Value)} {oc15 kV15 dc15 pm15 cd15 ct15 : Value}
    {f16 : Addr} {od16 an16 : Option Addr} {sl16 : Array (Option Value)} {oc16 kV16 dc16 pm16 cd16 ct16 : Value}
    {f17 : Addr} {od17 an17 : Option Addr} {sl17 : Array (Option Value)} {oc17 kV17 dc17 pm17 cd17 ct17 : Value}
    {f18 : Addr} {od18 an18 : Option Addr} {sl18 : Array (Option Value)} {oc18 kV18 dc18 pm18 cd18 ct18 : Value}
    {f19 : Addr} {od19 an19 : Option Addr} {sl19 : Array (Option Value)} {oc19 kV19 dc19 pm19 cd19 ct19 : Value}
    {f20 : Addr} {od20 an20 : Option Addr} {sl20 : Array (Option Value)} {oc20 kV20 dc20 pm20 cd20 ct20 : Value}
    {f21 : Addr} {od21 an21 : Option Addr} {sl21 : Array (Option Value)} {oc21 kV21 dc21 pm21 cd21 ct21 : Value}
    {f22 : Addr} {od22 an22 : Option Addr} {sl22 : Array (Option Value)} {oc22 kV22 dc22 pm22 cd22 ct22 : Value}
    {f23 : Addr} {od23 an23 : Option Addr} {sl23 : Array (Option Value)} {oc23 kV23 dc23 pm23 cd23 ct23 : Value}
    {f24 : Addr} {od24 an24 : Option Addr} {sl24 : Array (Option Value)} {oc24 kV24 dc24 pm24 cd24 ct24 : Value}
    {f25 : Addr} {od25 an25 : Option Addr} {sl25 : Array (Option Value)} {oc25 kV25 dc25 pm25 cd25 ct25 : Value}
    (aC : PySem.W.nsIn K mainGlobals "Table" = some (some (.ref C))) (aE : PySem.W.nsIn K mainGlobals "StepError" = some (some (.ref CE)))
    (a0 : PySem.W.nsIn K mainGlobals "divisor_of" = some (some (.ref f0)))
    (l0 : K.lookup f0 = some ⟨oc0, od0, .func (PySem.W.fnOf "divisor_of" "divisor_of" (defArgs s_divisor_of) (defBody s_divisor_of) (defScope s_divisor_of) .none kV0 dc0 pm0 an0 cd0 ct0), sl0⟩) (c0 : PySem.W.codeIn K cd0 "divisor_of" = true) (k0 : PySem.W.keepIn K (.ref f0) = true)
    (a1 : PySem.W.nsIn K mainGlobals "marked_rows" = some (some (.ref f1)))
    (l1 : K.lookup f1 = some ⟨oc1, od1, .func (PySem.W.fnOf "marked_rows" "marked_rows" (defArgs s_marked_rows) (defBody s_marked_rows) (defScope s_marked_rows) .none kV1 dc1 pm1 an1 cd1 ct1), sl1⟩) (c1 : PySem.W.codeIn K cd1 "marked_rows" = true) (k1 : PySem.W.keepIn K (.ref f1) = true)
    (a2 : PySem.W.findIn K (.ref C) "__init__" = some (some (.ref f2))) (i2 : PySem.W.isFn K (.ref f2) = true)
    (l2 : K.lookup f2 = some ⟨oc2, od2, .func (PySem.W.fnOf "__init__" "Table.__init__" (defArgs s_Table___init__) (defBody s_Table___init__) (defScope s_Table___init__) .none kV2 dc2 pm2 an2 cd2 ct2), sl2⟩) (c2 : PySem.W.codeIn K cd2 "Table.__init__" = true) (k2 : PySem.W.keepIn K (.ref f2) = true)
    (a3 : PySem.W.findIn K (.ref C) "entering" = some (some (.ref f3))) (i3 : PySem.W.isFn K (.ref f3) = true)
    (l3 : K.lookup f3 = some ⟨oc3, od3, .func (PySem.W.fnOf "entering" "Table.entering" (defArgs s_Table_entering) (defBody s_Table_entering) (defScope s_Table_entering) .none kV3 dc3 pm3 an3 cd3 ct3), sl3⟩) (c3 : PySem.W.codeIn K cd3 "Table.entering" = true) (k3 : PySem.W.keepIn K (.ref f3) = true)
    (a4 : PySem.W.findIn K (.ref C) "is_ahead" = some (some (.ref f4))) (i4 : PySem.W.isFn K (.ref f4) = true)
    (l4 : K.lookup f4 = some ⟨oc4, od4, .func (PySem.W.fnOf "is_ahead" "Table.is_ahead" (defArgs s_Table_is_ahead) (defBody s_Table_is_ahead) (defScope s_Table_is_ahead) .none kV4 dc4 pm4 an4 cd4 ct4), sl4⟩) (c4 : PySem.W.codeIn K cd4 "Table.is_ahead" = true) (k4 : PySem.W.keepIn K (.ref f4) = true)
    (a5 : PySem.W.findIn K (.ref C) "leaving" = some (some (.ref f5))) (i5 : PySem.W.isFn K (.ref f5) = true)
    (l5 : K.lookup f5 = some ⟨oc5, od5, .func (PySem.W.fnOf "leaving" "Table.leaving" (defArgs s_Table_leaving) (defBody s_Table_leaving) (defScope s_Table_leaving) .none kV5 dc5 pm5 an5 cd5 ct5), sl5⟩) (c5 : PySem.W.codeIn K cd5 "Table.leaving" = true) (k5 : PySem.W.keepIn K (.ref f5) = true)
    (a6 : PySem.W.findIn K (.ref C) "without" = some (some (.ref f6))) (i6 : PySem.W.isFn K (.ref f6) = true)
    (l6 : K.lookup f6 = some ⟨oc6, od6, .func (PySem.W.fnOf "without" "Table.without" (defArgs s_Table_without) (defBody s_Table_without) (defScope s_Table_without) .none kV6 dc6 pm6 an6 cd6 ct6), sl6⟩) (c6 : PySem.W.codeIn K cd6 "Table.without" = true) (k6 : PySem.W.keepIn K (.ref f6) = true)
    (a7 : PySem.W.findIn K (.ref C) "choose" = some (some (.ref f7))) (i7 : PySem.W.isFn K (.ref f7) = true)
    (l7 : K.lookup f7 = some ⟨oc7, od7, .func (PySem.W.fnOf "choose" "Table.choose" (defArgs s_Table_choose) (defBody s_Table_choose) (defScope s_Table_choose) .none kV7 dc7 pm7 an7 cd7 ct7), sl7⟩) (c7 : PySem.W.codeIn K cd7 "Table.choose" = true) (k7 : PySem.W.keepIn K (.ref f7) = true)
    (a8 : PySem.W.findIn K (.ref C) "lead" = some (some (.ref f8))) (i8 : PySem.W.isFn K (.ref f8) = true)
    (l8 : K.lookup f8 = some ⟨oc8, od8, .func (PySem.W.fnOf "lead" "Table.lead" (defArgs s_Table_lead) (defBody s_Table_lead) (defScope s_Table_lead) .none kV8 dc8 pm8 an8 cd8 ct8), sl8⟩) (c8 : PySem.W.codeIn K cd8 "Table.lead" = true) (k8 : PySem.W.keepIn K (.ref f8) = true)
    (a9 : PySem.W.nsIn K mainGlobals "numbers_in" = some (some (.ref f9)))
    (l9 : K.lookup f9 = some ⟨oc9, od9, .func (PySem.W.fnOf "numbers_in" "numbers_in" (defArgs s_numbers_in) (defBody s_numbers_in) (defScope s_numbers_in) .none kV9 dc9 pm9 an9 cd9 ct9), sl9⟩) (c9 : PySem.W.codeIn K cd9 "numbers_in" = true) (k9 : PySem.W.keepIn K (.ref f9) = true)
    (a10 : PySem.W.nsIn K mainGlobals "times_in" = some (some (.ref f10)))
    (l10 : K.lookup f10 = some ⟨oc10, od10, .func (PySem.W.fnOf "times_in" "times_in" (defArgs s_times_in) (defBody s_times_in) (defScope s_times_in) .none kV10 dc10 pm10 an10 cd10 ct10), sl10⟩) (c10 : PySem.W.codeIn K cd10 "times_in" = true) (k10 : PySem.W.keepIn K (.ref f10) = true)
    (a11 : PySem.W.nsIn K mainGlobals "parted_beside" = some (some (.ref f11)))
    (l11 : K.lookup f11 = some ⟨oc11, od11, .func (PySem.W.fnOf "parted_beside" "parted_beside" (defArgs s_parted_beside) (defBody s_parted_beside) (defScope s_parted_beside) .none kV11 dc11 pm11 an11 cd11 ct11), sl11⟩) (c11 : PySem.W.codeIn K cd11 "parted_beside" = true) (k11 : PySem.W.keepIn K (.ref f11) = true)
    (a12 : PySem.W.nsIn K mainGlobals "parted" = some (some (.ref f12)))
    (l12 : K.lookup f12 = some ⟨oc12, od12, .func (PySem.W.fnOf "parted" "parted" (defArgs s_parted) (defBody s_parted) (defScope s_parted) .none kV12 dc12 pm12 an12 cd12 ct12), sl12⟩) (c12 : PySem.W.codeIn K cd12 "parted" = true) (k12 : PySem.W.keepIn K (.ref f12) = true)
    (a13 : PySem.W.nsIn K mainGlobals "_law_begun" = some (some (.ref f13)))
    (l13 : K.lookup f13 = some ⟨oc13, od13, .func (PySem.W.fnOf "_law_begun" "_law_begun" (defArgs s_law_begun) (defBody s_law_begun) (defScope s_law_begun) .none kV13 dc13 pm13 an13 cd13 ct13), sl13⟩) (c13 : PySem.W.codeIn K cd13 "_law_begun" = true) (k13 : PySem.W.keepIn K (.ref f13) = true)
    (a14 : PySem.W.nsIn K mainGlobals "_law_blend" = some (some (.ref f14)))
    (l14 : K.lookup f14 = some ⟨oc14, od14, .func (PySem.W.fnOf "_law_blend" "_law_blend" (defArgs s_law_blend) (defBody s_law_blend) (defScope s_law_blend) .none kV14 dc14 pm14 an14 cd14 ct14), sl14⟩) (c14 : PySem.W.codeIn K cd14 "_law_blend" = true) (k14 : PySem.W.keepIn K (.ref f14) = true)
    (a15 : PySem.W.nsIn K mainGlobals "_law_draw" = some (some (.ref f15)))
    (l15 : K.lookup f15 = some ⟨oc15, od15, .func (PySem.W.fnOf "_law_draw" "_law_draw" (defArgs s_law_draw) (defBody s_law_draw) (defScope s_law_draw) .none kV15 dc15 pm15 an15 cd15 ct15), sl15⟩) (c15 : PySem.W.codeIn K cd15 "_law_draw" = true) (k15 : PySem.W.keepIn K (.ref f15) = true)
    (a16 : PySem.W.nsIn K mainGlobals "_law_pick" = some (some (.ref f16)))
    (l16 : K.lookup f16 = some ⟨oc16, od16, .func (PySem.W.fnOf "_law_pick" "_law_pick" (defArgs s_law_pick) (defBody s_law_pick) (defScope s_law_pick) .none kV16 dc16 pm16 an16 cd16 ct16), sl16⟩) (c16 : PySem.W.codeIn K cd16 "_law_pick" = true) (k16 : PySem.W.keepIn K (.ref f16) = true)
    (a17 : PySem.W.nsIn K mainGlobals "_law_shuffled" = some (some (.ref f17)))
    (l17 : K.lookup f17 = some ⟨oc17, od17, .func (PySem.W.fnOf "_law_shuffled" "_law_shuffled" (defArgs s_law_shuffled) (defBody s_law_shuffled) (defScope s_law_shuffled) .none kV17 dc17 pm17 an17 cd17 ct17), sl17⟩) (c17 : PySem.W.codeIn K cd17 "_law_shuffled" = true) (k17 : PySem.W.keepIn K (.ref f17) = true)
    (a18 : PySem.W.nsIn K mainGlobals "_law_is_pair" = some (some (.ref f18)))
    (l18 : K.lookup f18 = some ⟨oc18, od18, .func (PySem.W.fnOf "_law_is_pair" "_law_is_pair" (defArgs s_law_is_pair) (defBody s_law_is_pair) (defScope s_law_is_pair) .none kV18 dc18 pm18 an18 cd18 ct18), sl18⟩) (c18 : PySem.W.codeIn K cd18 "_law_is_pair" = true) (k18 : PySem.W.keepIn K (.ref f18) = true)
    (a19 : PySem.W.nsIn K mainGlobals "_law_dot" = some (some (.ref f19)))
    (l19 : K.lookup f19 = some ⟨oc19, od19, .func (PySem.W.fnOf "_law_dot" "_law_dot" (defArgs s_law_dot) (defBody s_law_dot) (defScope s_law_dot) .none kV19 dc19 pm19 an19 cd19 ct19), sl19⟩) (c19 : PySem.W.codeIn K cd19 "_law_dot" = true) (k19 : PySem.W.keepIn K (.ref f19) = true)
    (a20 : PySem.W.nsIn K mainGlobals "_law_sums" = some (some (.ref f20)))
    (l20 : K.lookup f20 = some ⟨oc20, od20, .func (PySem.W.fnOf "_law_sums" "_law_sums" (defArgs s_law_sums) (defBody s_law_sums) (defScope s_law_sums) .none kV20 dc20 pm20 an20 cd20 ct20), sl20⟩) (c20 : PySem.W.codeIn K cd20 "_law_sums" = true) (k20 : PySem.W.keepIn K (.ref f20) = true)
    (a21 : PySem.W.nsIn K mainGlobals "_law_are_numbers" = some (some (.ref f21)))
    (l21 : K.lookup f21 = some ⟨oc21, od21, .func (PySem.W.fnOf "_law_are_numbers" "_law_are_numbers" (defArgs s_law_are_numbers) (defBody s_law_are_numbers) (defScope s_law_are_numbers) .none kV21 dc21 pm21 an21 cd21 ct21), sl21⟩) (c21 : PySem.W.codeIn K cd21 "_law_are_numbers" = true) (k21 : PySem.W.keepIn K (.ref f21) = true)
    (a22 : PySem.W.nsIn K mainGlobals "_law_is_told" = some (some (.ref f22)))
    (l22 : K.lookup f22 = some ⟨oc22, od22, .func (PySem.W.fnOf "_law_is_told" "_law_is_told" (defArgs s_law_is_told) (defBody s_law_is_told) (defScope s_law_is_told) .none kV22 dc22 pm22 an22 cd22 ct22), sl22⟩) (c22 : PySem.W.codeIn K cd22 "_law_is_told" = true) (k22 : PySem.W.keepIn K (.ref f22) = true)
    (a23 : PySem.W.nsIn K mainGlobals "_law_rows" = some (some (.ref f23)))
    (l23 : K.lookup f23 = some ⟨oc23, od23, .func (PySem.W.fnOf "_law_rows" "_law_rows" (defArgs s_law_rows) (defBody s_law_rows) (defScope s_law_rows) .none kV23 dc23 pm23 an23 cd23 ct23), sl23⟩) (c23 : PySem.W.codeIn K cd23 "_law_rows" = true) (k23 : PySem.W.keepIn K (.ref f23) = true)
    (a24 : PySem.W.nsIn K mainGlobals "_law_small_right" = some (some (.ref f24)))
    (l24 : K.lookup f24 = some ⟨oc24, od24, .func (PySem.W.fnOf "_law_small_right" "_law_small_right" (defArgs s_law_small_right) (defBody s_law_small_right) (defScope s_law_small_right) .none kV24 dc24 pm24 an24 cd24 ct24), sl24⟩) (c24 : PySem.W.codeIn K cd24 "_law_small_right" = true) (k24 : PySem.W.keepIn K (.ref f24) = true)
    (a25 : PySem.W.nsIn K mainGlobals "law" = some (some (.ref f25)))
    (l25 : K.lookup f25 = some ⟨oc25, od25, .func (PySem.W.fnOf "law" "law" (defArgs s_law) (defBody s_law) (defScope s_law) .none kV25 dc25 pm25 an25 cd25 ct25), sl25⟩) (c25 : PySem.W.codeIn K cd25 "law" = true) (k25 : PySem.W.keepIn K (.ref f25) = true)
    (pg : PySem.W.plainGet K C Str.empty = true) (hd : PySem.W.hasDictIn K C = true) (po : PySem.W.plainOver K C = true) (sa : PySem.W.findIn K (.ref C) "__setattr__" = some (some (.builtin "object.__setattr__"))) (mk : PySem.W.makesIn K C = true) (kc : PySem.W.keepIn K (.ref C) = true)
    (n_many : PySem.W.findIn K (.ref C) "many" = some none)
    (n_rows : PySem.W.findIn K (.ref C) "rows" = some none)
    (n_chosen : PySem.W.findIn K (.ref C) "chosen" = some none)
    (n_lacks : PySem.W.findIn K (.ref C) "lacks" = some none)
    (n_below : PySem.W.findIn K (.ref C) "below" = some none)
    (z_len : PySem.W.nsIn K mainGlobals "len" = some none)
    (z_abs : PySem.W.nsIn K mainGlobals "abs" = some none)
    (z_sum : PySem.W.nsIn K mainGlobals "sum" = some none)
    (z_max : PySem.W.nsIn K mainGlobals "max" = some none)
    (z_min : PySem.W.nsIn K mainGlobals "min" = some none)
    (z_int : PySem.W.nsIn K mainGlobals "int" = some none)
    (z_list : PySem.W.nsIn K mainGlobals "list" = some none)
    (z_tuple : PySem.W.nsIn K mainGlobals "tuple" = some none)
    (z_range : PySem.W.nsIn K mainGlobals "range" = some none)
    (z_zip : PySem.W.nsIn K mainGlobals "zip" = some none)
    (z_enumerate : PySem.W.nsIn K mainGlobals "enumerate" = some none)
    (z_isinstance : PySem.W.nsIn K mainGlobals "isinstance" = some none)
    (z_str : PySem.W.nsIn K mainGlobals "str" = some none)
    (z_bool : PySem.W.nsIn K mainGlobals "bool" = some none)
    (kit : PySem.W.kitOne K (.type "dict") (.ref CE) = some false) :
    ∃ fd : FuncData, (∀ (s : Shared) (v : Value), BindsTo s fd ⟨[v], []⟩ [("script", v)]) ∧ ∀ base : Heap, K.In base → base.Ns mainGlobals mg → FnOk l.prog w K mg base CX0 7 fa fd ["script"] (spLaw K) := by
  have e := hfa.symm.trans (PySem.W.mg_of X G a25)
  cases e
  have B0 : Bi mg := ⟨PySem.W.mg_none_of X G z_len, PySem.W.mg_none_of X G z_abs, PySem.W.mg_none_of X G z_sum, PySem.W.mg_none_of X G z_max, PySem.W.mg_none_of X G z_min, PySem.W.mg_none_of X G z_int, PySem.W.mg_none_of X G z_list, PySem.W.mg_none_of X G z_tuple, PySem.W.mg_none_of X G z_range, PySem.W.mg_none_of X G z_zip, PySem.W.mg_none_of X G z_enumerate, PySem.W.mg_none_of X G z_isinstance, PySem.W.mg_none_of X G z_str, PySem.W.mg_none_of X G z_bool⟩
  have T : TT K mg C := ⟨B0, ⟨pg, hd, po, sa⟩, n_many, n_rows, n_chosen, n_lacks, n_below⟩
  have F0 := fun_mk (st := s_divisor_of) l0 c0 k0
  have b0 := F0.binds (ps := ["several"]) fun _ _ _ _ _ _ us hl => match us, hl with | [_], _ => rfl
  have F1 := fun_mk (st := s_marked_rows) l1 c1 k1
  have b1 := F1.binds (ps := ["several"]) fun _ _ _ _ _ _ us hl => match us, hl with | [_], _ => rfl
  have F2 := fun_mk (st := s_Table___init__) l2 c2 k2
  have b2 := F2.binds (ps := ["self", "several"]) fun _ _ _ _ _ _ us hl => match us, hl with | [_, _], _ => rfl
  have F3 := fun_mk (st := s_Table_entering) l3 c3 k3
  have b3 := F3.binds (ps := ["self"]) fun _ _ _ _ _ _ us hl => match us, hl with | [_], _ => rfl
  have F4 := fun_mk (st := s_Table_is_ahead) l4 c4 k4
  have b4 := F4.binds (ps := ["self", "spot", "one", "other"]) fun _ _ _ _ _ _ us hl => match us, hl with | [_, _, _, _], _ => rfl
  have F5 := fun_mk (st := s_Table_leaving) l5 c5 k5
  have b5 := F5.binds (ps := ["self", "spot"]) fun _ _ _ _ _ _ us hl => match us, hl with | [_, _], _ => rfl
  have F6 := fun_mk (st := s_Table_without) l6 c6 k6
  have b6 := F6.binds (ps := ["self", "row", "pivot", "spot"]) fun _ _ _ _ _ _ us hl => match us, hl with | [_, _, _, _], _ => rfl
  have F7 := fun_mk (st := s_Table_choose) l7 c7 k7
  have b7 := F7.binds (ps := ["self", "spot"]) fun _ _ _ _ _ _ us hl => match us, hl with | [_, _], _ => rfl
  have F8 := fun_mk (st := s_Table_lead) l8 c8 k8
  have b8 := F8.binds (ps := ["self"]) fun _ _ _ _ _ _ us hl => match us, hl with | [_], _ => rfl
  have F9 := fun_mk (st := s_numbers_in) l9 c9 k9
  have b9 := F9.binds (ps := ["table"]) fun _ _ _ _ _ _ us hl => match us, hl with | [_], _ => rfl
  have F10 := fun_mk (st := s_times_in) l10 c10 k10
  have b10 := F10.binds (ps := ["table"]) fun _ _ _ _ _ _ us hl => match us, hl with | [_], _ => rfl
  have F11 := fun_mk (st := s_parted_beside) l11 c11 k11
  have b11 := F11.binds (ps := ["rows", "even"]) fun _ _ _ _ _ _ us hl => match us, hl with | [_, _], _ => rfl
  have F12 := fun_mk (st := s_parted) l12 c12 k12
  have b12 := F12.binds (ps := ["rows"]) fun _ _ _ _ _ _ us hl => match us, hl with | [_], _ => rfl
  have F13 := fun_mk (st := s_law_begun) l13 c13 k13
  have b13 := F13.binds (ps := ["script"]) fun _ _ _ _ _ _ us hl => match us, hl with | [_], _ => rfl
  have F14 := fun_mk (st := s_law_blend) l14 c14 k14
  have b14 := F14.binds (ps := ["tape"]) fun _ _ _ _ _ _ us hl => match us, hl with | [_], _ => rfl
  have F15 := fun_mk (st := s_law_draw) l15 c15 k15
  have b15 := F15.binds (ps := ["tape", "size"]) fun _ _ _ _ _ _ us hl => match us, hl with | [_, _], _ => rfl
  have F16 := fun_mk (st := s_law_pick) l16 c16 k16
  have b16 := F16.binds (ps := ["tape", "several"]) fun _ _ _ _ _ _ us hl => match us, hl with | [_, _], _ => rfl
  have F17 := fun_mk (st := s_law_shuffled) l17 c17 k17
  have b17 := F17.binds (ps := ["tape", "several"]) fun _ _ _ _ _ _ us hl => match us, hl with | [_, _], _ => rfl
  have F18 := fun_mk (st := s_law_is_pair) l18 c18 k18
  have b18 := F18.binds (ps := ["thing", "word", "size"]) fun _ _ _ _ _ _ us hl => match us, hl with | [_, _, _], _ => rfl
  have F19 := fun_mk (st := s_law_dot) l19 c19 k19
  have b19 := F19.binds (ps := ["row", "numbers"]) fun _ _ _ _ _ _ us hl => match us, hl with | [_, _], _ => rfl
  have F20 := fun_mk (st := s_law_sums) l20 c20 k20
  have b20 := F20.binds (ps := ["rows", "counts", "size"]) fun _ _ _ _ _ _ us hl => match us, hl with | [_, _, _], _ => rfl
  have F21 := fun_mk (st := s_law_are_numbers) l21 c21 k21
  have b21 := F21.binds (ps := ["thing", "size"]) fun _ _ _ _ _ _ us hl => match us, hl with | [_, _], _ => rfl
  have F22 := fun_mk (st := s_law_is_told) l22 c22 k22
  have b22 := F22.binds (ps := ["rows", "even", "size", "told", "others"]) fun _ _ _ _ _ _ us hl => match us, hl with | [_, _, _, _, _], _ => rfl
  have F23 := fun_mk (st := s_law_rows) l23 c23 k23
  have b23 := F23.binds (ps := ["tape", "many", "size"]) fun _ _ _ _ _ _ us hl => match us, hl with | [_, _, _], _ => rfl
  have F24 := fun_mk (st := s_law_small_right) l24 c24 k24
  have b24 := F24.binds (ps := ["rows", "size", "told"]) fun _ _ _ _ _ _ us hl => match us, hl with | [_, _, _], _ => rfl
  have F25 := fun_mk (st := s_law) l25 c25 k25
  refine ⟨PySem.W.fnOf "law" "law" (defArgs s_law) (defBody s_law) (defScope s_law) .none kV25 dc25 pm25 an25 cd25 ct25, fun s v => .of_eq rfl, fun base _ _ => ?_⟩
  have X_divisor : Df l.prog w K mg base 1 "divisor_of" ["several"] (spDivisor K) := ⟨⟨f0, _, ok_divisor F0 T.toBi, PySem.W.mg_of X G a0, k0, b0⟩⟩
  have X_marked : Df l.prog w K mg base 1 "marked_rows" ["several"] (spMarked K) := ⟨⟨f1, _, ok_marked F1 T.toBi, PySem.W.mg_of X G a1, k1, b1⟩⟩
  have X_Table : MkD l.prog w K mg base C 2 "Table" ["self", "several"] (spInit K C) := ⟨⟨f2, _, ⟨mk, a2, i2, kc⟩, ok_init F2 T X_marked, PySem.W.mg_of X G aC, b2⟩⟩
  have X_enter : Md l.prog w K mg base C 1 "entering" ["self"] (spEnter K C) := ⟨⟨f3, _, ok_enter F3 T, ⟨a3, i3, k3⟩, b3⟩⟩
  have X_ahead : Md l.prog w K mg base C 1 "is_ahead" ["self", "spot", "one", "other"] (spAhead K C) := ⟨⟨f4, _, ok_ahead F4 T, ⟨a4, i4, k4⟩, b4⟩⟩
  have X_leave : Md l.prog w K mg base C 2 "leaving" ["self", "spot"] (spLeave K C) := ⟨⟨f5, _, ok_leave F5 T X_ahead, ⟨a5, i5, k5⟩, b5⟩⟩
  have X_without : Md l.prog w K mg base C 1 "without" ["self", "row", "pivot", "spot"] (spWithout K C) := ⟨⟨f6, _, ok_without F6 T, ⟨a6, i6, k6⟩, b6⟩⟩
  have X_choose : Md l.prog w K mg base C 3 "choose" ["self", "spot"] (spChoose K C) := ⟨⟨f7, _, ok_choose F7 T X_leave X_without, ⟨a7, i7, k7⟩, b7⟩⟩
  have X_lead : Md l.prog w K mg base C 4 "lead" ["self"] (spLead K C) := ⟨⟨f8, _, ok_lead F8 T X_choose X_enter, ⟨a8, i8, k8⟩, b8⟩⟩
  have X_numbers : Df l.prog w K mg base 2 "numbers_in" ["table"] (spNumbers K C) := ⟨⟨f9, _, ok_numbers F9 T X_divisor, PySem.W.mg_of X G a9, k9, b9⟩⟩
  have X_times : Df l.prog w K mg base 2 "times_in" ["table"] (spTimes K C) := ⟨⟨f10, _, ok_times F10 T X_divisor, PySem.W.mg_of X G a10, k10, b10⟩⟩
  have X_beside : Df l.prog w K mg base 5 "parted_beside" ["rows", "even"] (spBeside K) := ⟨⟨f11, _, ok_beside F11 T X_Table X_lead X_numbers X_times, PySem.W.mg_of X G a11, k11, b11⟩⟩
  have X_parted : Df l.prog w K mg base 6 "parted" ["rows"] (spParted K) := ⟨⟨f12, _, ok_parted F12 X_beside, PySem.W.mg_of X G a12, k12, b12⟩⟩
  have X_begun : Df l.prog w K mg base 1 "_law_begun" ["script"] (spBegun K) := ⟨⟨f13, _, ok_begun F13 T.toBi, PySem.W.mg_of X G a13, k13, b13⟩⟩
  have X_blend : Df l.prog w K mg base 1 "_law_blend" ["tape"] spBlend := ⟨⟨f14, _, ok_blend F14 T.toBi, PySem.W.mg_of X G a14, k14, b14⟩⟩
  have X_draw : Df l.prog w K mg base 2 "_law_draw" ["tape", "size"] spDraw := ⟨⟨f15, _, ok_draw F15 T.toBi X_blend, PySem.W.mg_of X G a15, k15, b15⟩⟩
  have X_pick : Df l.prog w K mg base 3 "_law_pick" ["tape", "several"] (spPick K) := ⟨⟨f16, _, ok_pick F16 T.toBi X_draw, PySem.W.mg_of X G a16, k16, b16⟩⟩
  have X_shuffled : Df l.prog w K mg base 3 "_law_shuffled" ["tape", "several"] (spShuffled K) := ⟨⟨f17, _, ok_shuffled F17 T.toBi X_draw, PySem.W.mg_of X G a17, k17, b17⟩⟩
  have X_is_pair : Df l.prog w K mg base 1 "_law_is_pair" ["thing", "word", "size"] (spIsPair K) := ⟨⟨f18, _, ok_is_pair F18 T.toBi, PySem.W.mg_of X G a18, k18, b18⟩⟩
  have X_dot : Df l.prog w K mg base 1 "_law_dot" ["row", "numbers"] (spDot K) := ⟨⟨f19, _, ok_dot F19 T.toBi, PySem.W.mg_of X G a19, k19, b19⟩⟩
  have X_sums : Df l.prog w K mg base 1 "_law_sums" ["rows", "counts", "size"] (spSums K) := ⟨⟨f20, _, ok_sums F20 T.toBi, PySem.W.mg_of X G a20, k20, b20⟩⟩
  have X_are : Df l.prog w K mg base 1 "_law_are_numbers" ["thing", "size"] (spAre K) := ⟨⟨f21, _, ok_are F21 T.toBi, PySem.W.mg_of X G a21, k21, b21⟩⟩
  have X_is_told : Df l.prog w K mg base 2 "_law_is_told" ["rows", "even", "size", "told", "others"] (spIsTold K) := ⟨⟨f22, _, ok_is_told F22 T.toBi X_is_pair X_are X_dot X_sums, PySem.W.mg_of X G a22, k22, b22⟩⟩
  have X_rows : Df l.prog w K mg base 4 "_law_rows" ["tape", "many", "size"] (spRows K) := ⟨⟨f23, _, ok_rows F23 T.toBi X_draw X_pick X_sums X_dot X_shuffled, PySem.W.mg_of X G a23, k23, b23⟩⟩
  have X_small : Df l.prog w K mg base 2 "_law_small_right" ["rows", "size", "told"] (spSmall K) := ⟨⟨f24, _, ok_small F24 T.toBi X_sums, PySem.W.mg_of X G a24, k24, b24⟩⟩
  have XK_parted : DfK l.prog w K mg base 6 "parted" ["rows"] ["rows"] (spParted K) (fun vs zs => if vs = [] then zs else []) := ⟨⟨f12, _, _, ok_parted F12 X_beside, PySem.W.mg_of X G a12, k12, kb1 fun _ => rfl⟩⟩
  have XK_beside : DfK l.prog w K mg base 5 "parted_beside" ["rows", "even"] ["even", "rows"] (spBeside K) (fun vs zs => if vs = [] then zs.reverse else []) := ⟨⟨f11, _, _, ok_beside F11 T X_Table X_lead X_numbers X_times, PySem.W.mg_of X G a11, k11, kb2 fun _ _ => rfl⟩⟩
  exact ok_law F25 T.toBi (PySem.W.mg_of X G aE) kit ⟨X_begun, X_draw, X_rows, X_parted, X_beside, XK_parted, XK_beside, X_is_told, X_small⟩
theorem walk {l : PySem.W.OpenLaw} {q : Program} {loose : List Str} {XP : (Str → Option Value) → Heap → Prop} {YP : World → Heap → Prop} {d : DefRec} {K : Params → PySem.W.Frag} (hn : l.most = some 63) (hdf : d.params.defaults = [])
    (hY : ∀ (w : World) (h : Heap), YP w h → (K w.params).In h)
    (F : ∀ (w : World) (mg : Str → Option Value) (fa : Addr) (h : Heap), (K w.params).In h → h.Ns mainGlobals mg → mg d.name = some (.ref fa) →
      ∃ fd : FuncData, (∀ (s : Shared) (u : Value), BindsTo s fd ⟨[u], []⟩ [("script", u)]) ∧ ∀ base : Heap, (K w.params).In base → base.Ns mainGlobals mg → FnOk l.prog w (K w.params) mg base CX0 7 fa fd ["script"] (spLaw (K w.params))) :
    PySem.W.WalkO q loose XP YP l.row.toRowW d [] (fun f vs => PySem.call f vs) :=
  L2.walk_of (n := 63) (k := 7) (x := "script") (CX := fun _ => CX0) (sp := fun w => spLaw (K w.params)) hn (by decide) hdf ⟨rfl, by decide, by decide⟩ hY F (fun _ _ a ns hl _ hS => ⟨a, ns, rfl, hS, hl, fun _ => rfl⟩) fun _ _ _ _ _ z => z
end Ls
open PySem PySem.W PyProof.Rows
set_option maxRecDepth 100000 in
set_option maxHeartbeats 0 in
theorem PySem.Challenge.cw_lowersteps_k36_whole_rows_parted_or_canc_holds : PySem.Challenge.rw_lowersteps_k36_whole_rows_parted_or_canc.Holds := by
  w_on; o_law; k_head; (case hw => w_witness2)
  k_fill
  refine Ls.walk (l := PySem.Challenge.rw_lowersteps_k36_whole_rows_parted_or_canc) rfl rfl (fun w h Y => PySem.W.kIn_of Y) ?F
  case F =>
    intro w mg fa h KX G hmg
    refine' Ls.all_mk KX G hmg ?aC ?aE ?a0 ?l0 ?c0 ?k0 ?a1 ?l1 ?c1 ?k1 ?a2 ?i2 ?l2 ?c2 ?k2 ?a3 ?i3 ?l3 ?c3 ?k3 ?a4 ?i4 ?l4 ?c4 ?k4 ?a5 ?i5 ?l5 ?c5 ?k5 ?a6 ?i6 ?l6 ?c6 ?k6 ?a7 ?i7 ?l7 ?c7 ?k7 ?a8 ?i8 ?l8 ?c8 ?k8 ?a9 ?l9 ?c9 ?k9 ?a10 ?l10 ?c10 ?k10 ?a11 ?l11 ?c11 ?k11 ?a12 ?l12 ?c12 ?k12 ?a13 ?l13 ?c13 ?k13 ?a14 ?l14 ?c14 ?k14 ?a15 ?l15 ?c15 ?k15 ?a16 ?l16 ?c16 ?k16 ?a17 ?l17 ?c17 ?k17 ?a18 ?l18 ?c18 ?k18 ?a19 ?l19 ?c19 ?k19 ?a20 ?l20 ?c20 ?k20 ?a21 ?l21 ?c21 ?k21 ?a22 ?l22 ?c22 ?k22 ?a23 ?l23 ?c23 ?k23 ?a24 ?l24 ?c24 ?k24 ?a25 ?l25 ?c25 ?k25 ?pg ?hd ?po ?sa ?mk ?kc ?n_many ?n_rows ?n_chosen ?n_lacks ?n_below ?z_len ?z_abs ?z_sum ?z_max ?z_min ?z_int ?z_list ?z_tuple ?z_range ?z_zip ?z_enumerate ?z_isinstance ?z_str ?z_bool ?kit
    (case aC => k_is)
    (case aE => k_is)
    (case a0 => k_is)
    (case l0 => k_is)
    (case c0 => k_is)
    (case k0 => k_is)
    (case a1 => k_is)
    (case l1 => k_is)
    (case c1 => k_is)
    (case k1 => k_is)
    (case a2 => k_is)
    (case i2 => k_is)
    (case l2 => k_is)
    (case c2 => k_is)
    (case k2 => k_is)
    (case a3 => k_is)
    (case i3 => k_is)
    (case l3 => k_is)
    (case c3 => k_is)
    (case k3 => k_is)
    (case a4 => k_is)
    (case i4 => k_is)
    (case l4 => k_is)
    (case c4 => k_is)
    (case k4 => k_is)
    (case a5 => k_is)
    (case i5 => k_is)
    (case l5 => k_is)
    (case c5 => k_is)
    (case k5 => k_is)
    (case a6 => k_is)
    (case i6 => k_is)
    (case l6 => k_is)
    (case c6 => k_is)
    (case k6 => k_is)
    (case a7 => k_is)
    (case i7 => k_is)
    (case l7 => k_is)
    (case c7 => k_is)
    (case k7 => k_is)
    (case a8 => k_is)
    (case i8 => k_is)
    (case l8 => k_is)
    (case c8 => k_is)
    (case k8 => k_is)
    (case a9 => k_is)
    (case l9 => k_is)
    (case c9 => k_is)
    (case k9 => k_is)
    (case a10 => k_is)
    (case l10 => k_is)
    (case c10 => k_is)
    (case k10 => k_is)
    (case a11 => k_is)
    (case l11 => k_is)
    (case c11 => k_is)
    (case k11 => k_is)
    (case a12 => k_is)
    (case l12 => k_is)
    (case c12 => k_is)
    (case k12 => k_is)
    (case a13 => k_is)
    (case l13 => k_is)
    (case c13 => k_is)
    (case k13 => k_is)
    (case a14 => k_is)
    (case l14 => k_is)
    (case c14 => k_is)
    (case k14 => k_is)
    (case a15 => k_is)
    (case l15 => k_is)
    (case c15 => k_is)
    (case k15 => k_is)
    (case a16 => k_is)
    (case l16 => k_is)
    (case c16 => k_is)
    (case k16 => k_is)
    (case a17 => k_is)
    (case l17 => k_is)
    (case c17 => k_is)
    (case k17 => k_is)
    (case a18 => k_is)
    (case l18 => k_is)
    (case c18 => k_is)
    (case k18 => k_is)
    (case a19 => k_is)
    (case l19 => k_is)
    (case c19 => k_is)
    (case k19 => k_is)
    (case a20 => k_is)
    (case l20 => k_is)
    (case c20 => k_is)
    (case k20 => k_is)
    (case a21 => k_is)
    (case l21 => k_is)
    (case c21 => k_is)
    (case k21 => k_is)
    (case a22 => k_is)
    (case l22 => k_is)
    (case c22 => k_is)
    (case k22 => k_is)
    (case a23 => k_is)
    (case l23 => k_is)
    (case c23 => k_is)
    (case k23 => k_is)
    (case a24 => k_is)
    (case l24 => k_is)
    (case c24 => k_is)
    (case k24 => k_is)
    (case a25 => k_is)
    (case l25 => k_is)
    (case c25 => k_is)
    (case k25 => k_is)
    (case pg => k_is)
    (case hd => k_is)
    (case po => k_is)
    (case sa => k_is)
    (case mk => k_is)
    (case kc => k_is)
    (case n_many => k_is)
    (case n_rows => k_is)
    (case n_chosen => k_is)
    (case n_lacks => k_is)
    (case n_below => k_is)
    (case z_len => k_is)
    (case z_abs => k_is)
    (case z_sum => k_is)
    (case z_max => k_is)
    (case z_min => k_is)
    (case z_int => k_is)
    (case z_list => k_is)
    (case z_tuple => k_is)
    (case z_range => k_is)
    (case z_zip => k_is)
    (case z_enumerate => k_is)
    (case z_isinstance => k_is)
    (case z_str => k_is)
    (case z_bool => k_is)
    (case kit => kit_is)
end
