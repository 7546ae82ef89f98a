import PyProof.Rows.All
import Wide.All
import OpenK.AllK
import Wide.FinOn
import HandS.ForMost
import HandS.Wide
import HandS.Zip
import HandS.TupAny
import HandS.TupMul
import HandS.Style
import HandS.IsInst
import HandS.Deep
import HandS.Zip0
import PyProof.ListNew
import HandS.Star
import PyProof.Draws
import HandS.Conv
import KE.KRevSl
import KE.DataMinMax
import KE.SortData
import PyProof.ReprRoads
import HandS.FStrTup
import PySem.Challenge.RW_astherulessay_k68_whole_matrices_put_tog
set_option Elab.async false
/-! sums of rationals over a range -/
namespace K68
def sm : Nat → (Nat → Rat) → Rat
  | 0, _ => 0
  | n + 1, f => sm n f + f n
theorem sm_congr {n : Nat} {f g : Nat → Rat} (h : ∀ i, i < n → f i = g i) : sm n f = sm n g := by
  induction n with
  | zero => rfl
  | succ n ih => rw [sm, sm, ih (fun i hi => h i (by omega)), h n (by omega)]
theorem sm_zero {n : Nat} {f : Nat → Rat} (h : ∀ i, i < n → f i = 0) : sm n f = 0 := by
  induction n with
  | zero => rfl
  | succ n ih => rw [sm, ih (fun i hi => h i (by omega)), h n (by omega)]; grind
theorem sm_add {n : Nat} {f g : Nat → Rat} : sm n (fun i => f i + g i) = sm n f + sm n g := by
  induction n with
  | zero => simp only [sm]; grind
  | succ n ih => rw [sm, sm, sm, ih]; grind
theorem sm_sub {n : Nat} {f g : Nat → Rat} : sm n (fun i => f i - g i) = sm n f - sm n g := by
  induction n with
  | zero => simp only [sm]; grind
  | succ n ih => rw [sm, sm, sm, ih]; grind
theorem sm_mul {n : Nat} {f : Nat → Rat} (a : Rat) : sm n (fun i => a * f i) = a * sm n f := by
  induction n with
  | zero => simp [sm]
  | succ n ih => rw [sm, sm, ih]; grind
theorem sm_mulr {n : Nat} {f : Nat → Rat} (a : Rat) : sm n (fun i => f i * a) = sm n f * a := by
  induction n with
  | zero => simp [sm]
  | succ n ih => rw [sm, sm, ih]; grind
theorem sm_nonneg {n : Nat} {f : Nat → Rat} (h : ∀ i, i < n → 0 ≤ f i) : 0 ≤ sm n f := by
  induction n with
  | zero => exact Rat.le_refl
  | succ n ih =>
    have h1 := ih (fun i hi => h i (by omega))
    have h2 := h n (by omega)
    rw [sm]; grind
theorem sm_le {n : Nat} {f g : Nat → Rat} (h : ∀ i, i < n → f i ≤ g i) : sm n f ≤ sm n g := by
  induction n with
  | zero => exact Rat.le_refl
  | succ n ih =>
    have h1 := ih (fun i hi => h i (by omega))
    have h2 := h n (by omega)
    rw [sm, sm]; grind
/-- one place alone -/
theorem sm_one {n c : Nat} {f : Nat → Rat} (hc : c < n) : sm n (fun j => if j = c then f j else 0) = f c := by
  induction n with
  | zero => omega
  | succ n ih =>
    rw [sm]
    by_cases e : c = n
    · subst e
      rw [sm_zero (fun i hi => if_neg (by omega)), if_pos rfl]; grind
    · rw [ih (by omega), if_neg (by omega)]; grind
theorem sm_swap {n m : Nat} {f : Nat → Nat → Rat} : sm n (fun i => sm m (fun j => f i j)) = sm m (fun j => sm n (fun i => f i j)) := by
  induction n with
  | zero =>
    rw [sm]
    exact (sm_zero (fun i hi => rfl)).symm
  | succ n ih =>
    rw [sm, ih, ← sm_add]
    exact sm_congr fun i _ => rfl
theorem sm_split {n m : Nat} {f : Nat → Rat} : sm (n + m) f = sm n f + sm m (fun j => f (n + j)) := by
  induction m with
  | zero => rw [Nat.add_zero]; show sm n f = sm n f + 0; grind
  | succ m ih => rw [← Nat.add_assoc, sm, sm, ih]; grind
theorem sm_pos_le {n : Nat} {f : Nat → Rat} (h : ∀ i, i < n → 0 ≤ f i) {k : Nat} (hk : k < n) : f k ≤ sm n f := by
  have e : sm n f - f k = sm n (fun i => if i = k then 0 else f i) := by
    have e1 : sm n (fun j => if j = k then f j else 0) = f k := sm_one hk
    rw [← e1, ← sm_sub]
    refine sm_congr fun i _ => ?_
    by_cases z : i = k
    · rw [if_pos z, if_pos z]; grind
    · rw [if_neg z, if_neg z]; grind
  have p := sm_nonneg (n := n) (f := fun i => if i = k then 0 else f i) fun i hi => by
    by_cases z : i = k
    · rw [if_pos z]; exact Rat.le_refl
    · rw [if_neg z]; exact h i hi
  grind
end K68
/-! tables of the simplex way: kernels, turns -/
namespace K68
structure Tab where
  T : Nat → Nat → Rat
  z : Nat → Rat
  b : Nat → Nat
def turn (t : Tab) (r c : Nat) : Tab where
  T := fun i j => if i = r then t.T r j / t.T r c else t.T i j - t.T i c * (t.T r j / t.T r c)
  z := fun j => t.z j - t.z c * (t.T r j / t.T r c)
  b := fun i => if i = r then c else t.b i
/-- m rows, places below N are variables, place N what they must be -/
structure Good (m N : Nat) (t : Tab) : Prop where
  lt : ∀ i, i < m → t.b i < N
  inj : ∀ i k, i < m → k < m → t.b i = t.b k → i = k
  unit : ∀ i k, i < m → k < m → t.T i (t.b k) = if i = k then 1 else 0
  zero : ∀ k, k < m → t.z (t.b k) = 0
def Ker (m N : Nat) (t : Tab) (x : Nat → Rat) : Prop := ∀ i, i < m → sm (N + 1) (fun j => t.T i j * x j) = 0
def zdot (N : Nat) (t : Tab) (x : Nat → Rat) : Rat := sm (N + 1) (fun j => t.z j * x j)
theorem good_turn {m N : Nat} {t : Tab} {r c : Nat} (g : Good m N t) (hr : r < m) (hc : c < N) (hp : t.T r c ≠ 0) : Good m N (turn t r c) := by
  have nb : ∀ k, k < m → k ≠ r → t.b k ≠ c := fun k hk hkr e => by
    have := g.unit r k hr hk
    rw [e, if_neg (Ne.symm hkr)] at this
    exact hp this
  refine ⟨fun i hi => ?_, fun i k hi hk e => ?_, fun i k hi hk => ?_, fun k hk => ?_⟩
  · show (if i = r then c else t.b i) < N
    split
    · exact hc
    · exact g.lt i hi
  · have e' : (if i = r then c else t.b i) = (if k = r then c else t.b k) := e
    by_cases h1 : i = r
    · by_cases h2 : k = r
      · omega
      · rw [if_pos h1, if_neg h2] at e'
        exact absurd e'.symm (nb k hk h2)
    · by_cases h2 : k = r
      · rw [if_neg h1, if_pos h2] at e'
        exact absurd e' (nb i hi h1)
      · rw [if_neg h1, if_neg h2] at e'
        exact g.inj i k hi hk e'
  · show (if i = r then t.T r (if k = r then c else t.b k) / t.T r c else t.T i (if k = r then c else t.b k) - t.T i c * (t.T r (if k = r then c else t.b k) / t.T r c)) = if i = k then 1 else 0
    by_cases h2 : k = r
    · rw [if_pos h2]
      by_cases h1 : i = r
      · rw [if_pos h1, if_pos (by omega)]; grind
      · rw [if_neg h1, if_neg (by omega)]; grind
    · rw [if_neg h2]
      have e1 := g.unit r k hr hk
      rw [if_neg (Ne.symm h2)] at e1
      rw [e1]
      by_cases h1 : i = r
      · rw [if_pos h1, if_neg (by omega)]; grind
      · rw [if_neg h1, g.unit i k hi hk]; grind
  · show t.z (if k = r then c else t.b k) - t.z c * (t.T r (if k = r then c else t.b k) / t.T r c) = 0
    by_cases h2 : k = r
    · rw [if_pos h2]; grind
    · rw [if_neg h2, g.zero k hk, g.unit r k hr hk, if_neg (Ne.symm h2)]; grind
theorem turn_row {m N : Nat} {t : Tab} {r c i : Nat} {x : Nat → Rat} (hp : t.T r c ≠ 0) :
    sm (N + 1) (fun j => (turn t r c).T i j * x j) = if i = r then sm (N + 1) (fun j => t.T r j * x j) / t.T r c else sm (N + 1) (fun j => t.T i j * x j) - t.T i c * (sm (N + 1) (fun j => t.T r j * x j) / t.T r c) := by
  by_cases h : i = r
  · rw [if_pos h]
    have e : sm (N + 1) (fun j => (turn t r c).T i j * x j) = sm (N + 1) (fun j => (1 / t.T r c) * (t.T r j * x j)) := sm_congr fun j _ => by
      show (if i = r then t.T r j / t.T r c else _) * x j = _
      rw [if_pos h]; grind
    rw [e, sm_mul]; grind
  · rw [if_neg h]
    have e : sm (N + 1) (fun j => (turn t r c).T i j * x j) = sm (N + 1) (fun j => t.T i j * x j - (t.T i c / t.T r c) * (t.T r j * x j)) := sm_congr fun j _ => by
      show (if i = r then _ else t.T i j - t.T i c * (t.T r j / t.T r c)) * x j = _
      rw [if_neg h]; grind
    rw [e, sm_sub, sm_mul]; grind
theorem ker_turn {m N : Nat} {t : Tab} {r c : Nat} {x : Nat → Rat} (hr : r < m) (hp : t.T r c ≠ 0) : Ker m N (turn t r c) x ↔ Ker m N t x := by
  constructor
  · intro h i hi
    have h1 := h r hr
    rw [turn_row (m := m) hp, if_pos rfl] at h1
    have h2 := h i hi
    rw [turn_row (m := m) hp] at h2
    by_cases e : i = r
    · subst e; grind
    · rw [if_neg e] at h2; grind
  · intro h i hi
    rw [turn_row (m := m) hp, h r hr]
    by_cases e : i = r
    · rw [if_pos e]; grind
    · rw [if_neg e, h i hi]; grind
theorem zdot_turn {m N : Nat} {t : Tab} {r c : Nat} {x : Nat → Rat} (hr : r < m) (hp : t.T r c ≠ 0) (k : Ker m N t x) : zdot N (turn t r c) x = zdot N t x := by
  unfold zdot
  have e : sm (N + 1) (fun j => (turn t r c).z j * x j) = sm (N + 1) (fun j => t.z j * x j - (t.z c / t.T r c) * (t.T r j * x j)) := sm_congr fun j _ => by
    show (t.z j - t.z c * (t.T r j / t.T r c)) * x j = _
    grind
  rw [e, sm_sub, sm_mul, k r hr]; grind
/-- the vector that is 1 at c, and less w at each base -/
def vec (m : Nat) (b : Nat → Nat) (w : Nat → Rat) (c : Nat) : Nat → Rat := fun j => (if j = c then 1 else 0) - sm m (fun i => if j = b i then w i else 0)
theorem dot_vec {m n : Nat} {b : Nat → Nat} {w f : Nat → Rat} {c : Nat} (hc : c < n) (hb : ∀ i, i < m → b i < n) :
    sm n (fun j => f j * vec m b w c j) = f c - sm m (fun i => f (b i) * w i) := by
  have e : sm n (fun j => f j * vec m b w c j) = sm n (fun j => (if j = c then f j else 0) - sm m (fun i => if j = b i then f j * w i else 0)) := sm_congr fun j _ => by
    have e1 : f j * sm m (fun i => if j = b i then w i else 0) = sm m (fun i => if j = b i then f j * w i else 0) := by
      rw [← sm_mul]
      exact sm_congr fun i _ => by split <;> grind
    show f j * ((if j = c then 1 else 0) - sm m (fun i => if j = b i then w i else 0)) = _
    rw [← e1]
    split <;> grind
  rw [e, sm_sub, sm_one hc, sm_swap]
  have e2 : sm m (fun i => sm n (fun j => if j = b i then f j * w i else 0)) = sm m (fun i => f (b i) * w i) := sm_congr fun i hi => sm_one (f := fun j => f j * w i) (hb i hi)
  rw [e2]
theorem vec_base {m : Nat} {b : Nat → Nat} {w : Nat → Rat} {c k : Nat} (hk : k < m) (inj : ∀ i k, i < m → k < m → b i = b k → i = k) (hn : b k ≠ c) : vec m b w c (b k) = - w k := by
  unfold vec
  rw [if_neg hn]
  have e : sm m (fun i => if b k = b i then w i else 0) = sm m (fun i => if i = k then w i else 0) := sm_congr fun i hi => by
    by_cases z : i = k
    · rw [if_pos z, z, if_pos rfl]
    · rw [if_neg z, if_neg fun q => z (inj k i hk hi q).symm]
  rw [e, sm_one hk]; grind
theorem vec_other {m : Nat} {b : Nat → Nat} {w : Nat → Rat} {c j : Nat} (h : ∀ i, i < m → b i ≠ j) : vec m b w c j = if j = c then 1 else 0 := by
  unfold vec
  rw [sm_zero fun i hi => if_neg fun q => h i hi q.symm]; grind
/-- the kernel's vector of a place that is no base -/
def kv (m : Nat) (t : Tab) (c : Nat) : Nat → Rat := vec m t.b (fun i => t.T i c) c
theorem ker_kv {m N : Nat} {t : Tab} {c : Nat} (g : Good m N t) (hc : c < N + 1) : Ker m N t (kv m t c) := fun i hi => by
  unfold kv
  rw [dot_vec hc fun k hk => by have := g.lt k hk; omega]
  have e : sm m (fun k => t.T i (t.b k) * t.T k c) = sm m (fun k => if k = i then t.T k c else 0) := sm_congr fun k hk => by
    rw [g.unit i k hi hk]
    by_cases z : k = i
    · rw [if_pos z, if_pos z.symm]; grind
    · rw [if_neg z, if_neg (Ne.symm z)]; grind
  rw [e, sm_one hi]; grind
theorem zdot_kv {m N : Nat} {t : Tab} {c : Nat} (g : Good m N t) (hc : c < N + 1) : zdot N t (kv m t c) = t.z c := by
  unfold zdot kv
  rw [dot_vec hc fun k hk => by have := g.lt k hk; omega, sm_zero fun k hk => by rw [g.zero k hk]; grind]; grind
/-- a vector of the kernel at a base is told by its other places -/
theorem ker_at {m N : Nat} {t : Tab} {x : Nat → Rat} (g : Good m N t) (k : Ker m N t x) (h : ∀ j, j < N + 1 → (∀ i, i < m → t.b i ≠ j) → x j = 0) : ∀ j, j < N + 1 → x j = 0 := fun j hj => by
  by_cases hb : ∃ i, i < m ∧ t.b i = j
  · obtain ⟨i, hi, rfl⟩ := hb
    have e := k i hi
    have e2 : sm (N + 1) (fun j => t.T i j * x j) = sm (N + 1) (fun j => if j = t.b i then x j else 0) := sm_congr fun j hj => by
      by_cases z : ∃ k, k < m ∧ t.b k = j
      · obtain ⟨k, hk, rfl⟩ := z
        rw [g.unit i k hi hk]
        by_cases y : i = k
        · rw [if_pos y, y, if_pos rfl]; grind
        · rw [if_neg y, if_neg fun q => y (g.inj i k hi hk q.symm)]; grind
      · rw [h j hj fun k hk q => z ⟨k, hk, q⟩]
        split <;> grind
    rw [e2, sm_one hj] at e
    exact e
  · exact h j hj fun i hi q => hb ⟨i, hi, q⟩
end K68
/-! the way of the least place never meets a lot of bases twice -/
namespace K68
/-- a turn by the least places: column c, row r -/
structure Step (m N : Nat) (t : Tab) (r c : Nat) : Prop where
  hr : r < m
  hc : c < N
  neg : t.z c < 0
  first : ∀ j, j < c → 0 ≤ t.z j
  pos : 0 < t.T r c
  least : ∀ i, i < m → 0 < t.T i c → t.T r N / t.T r c ≤ t.T i N / t.T i c
  tie : ∀ i, i < m → 0 < t.T i c → t.T r N / t.T r c = t.T i N / t.T i c → t.b r ≤ t.b i
def Feas (m N : Nat) (t : Tab) : Prop := ∀ i, i < m → 0 ≤ t.T i N
theorem Step.ne {m N : Nat} {t : Tab} {r c : Nat} (s : Step m N t r c) : t.T r c ≠ 0 := by
  have := s.pos
  grind
theorem quot_nonneg {a b : Rat} (h : 0 ≤ a) (hb : 0 < b) : 0 ≤ a / b := by
  rw [Rat.div_def]
  exact Rat.mul_nonneg h (Rat.le_of_lt (Rat.inv_pos.mpr hb))
theorem mul_nonneg' {a b : Rat} (h : 0 ≤ a) (hb : 0 ≤ b) : 0 ≤ a * b := Rat.mul_nonneg h hb
theorem mul_pos' {a b : Rat} (h : 0 < a) (hb : 0 < b) : 0 < a * b := Rat.mul_pos h hb
theorem feas_turn {m N : Nat} {t : Tab} {r c : Nat} (s : Step m N t r c) (f : Feas m N t) : Feas m N (turn t r c) := fun i hi => by
  have h0 := quot_nonneg (f r s.hr) s.pos
  show 0 ≤ (if i = r then t.T r N / t.T r c else t.T i N - t.T i c * (t.T r N / t.T r c))
  split
  · exact h0
  · by_cases hp : 0 < t.T i c
    · have h1 := s.least i hi hp
      have h2 : t.T i c * (t.T r N / t.T r c) ≤ t.T i c * (t.T i N / t.T i c) := Rat.mul_le_mul_of_nonneg_left h1 (Rat.le_of_lt hp)
      have h3 : t.T i c * (t.T i N / t.T i c) = t.T i N := by grind
      grind
    · have h1 : 0 ≤ (- t.T i c) * (t.T r N / t.T r c) := mul_nonneg' (by grind) h0
      have h2 := f i hi
      grind
/-- a history: turns by the least places -/
structure Hist (m N : Nat) (h : Nat → Tab) (rc : Nat → Nat × Nat) (K : Nat) : Prop where
  good : Good m N (h 0)
  feas : Feas m N (h 0)
  step : ∀ k, k < K → Step m N (h k) (rc k).1 (rc k).2
  next : ∀ k, k < K → h (k + 1) = turn (h k) (rc k).1 (rc k).2
section
variable {m N K : Nat} {h : Nat → Tab} {rc : Nat → Nat × Nat}
theorem Hist.goods (a : Hist m N h rc K) : ∀ k, k ≤ K → Good m N (h k) ∧ Feas m N (h k) := fun k => by
  induction k with
  | zero => exact fun _ => ⟨a.good, a.feas⟩
  | succ k ih =>
    intro hk
    obtain ⟨g, f⟩ := ih (by omega)
    have s := a.step k (by omega)
    rw [a.next k (by omega)]
    exact ⟨good_turn g s.hr s.hc s.ne, feas_turn s f⟩
theorem Hist.ker (a : Hist m N h rc K) (x : Nat → Rat) : ∀ k, k ≤ K → (Ker m N (h k) x ↔ Ker m N (h 0) x) := fun k => by
  induction k with
  | zero => exact fun _ => Iff.rfl
  | succ k ih =>
    intro hk
    have s := a.step k (by omega)
    rw [a.next k (by omega), ker_turn s.hr s.ne]
    exact ih (by omega)
theorem Hist.zdot (a : Hist m N h rc K) (x : Nat → Rat) (hx : Ker m N (h 0) x) : ∀ k, k ≤ K → K68.zdot N (h k) x = K68.zdot N (h 0) x := fun k => by
  induction k with
  | zero => exact fun _ => rfl
  | succ k ih =>
    intro hk
    have s := a.step k (by omega)
    rw [a.next k (by omega), zdot_turn s.hr s.ne ((a.ker x k (by omega)).mpr hx)]
    exact ih (by omega)
def InB (m : Nat) (t : Tab) (v : Nat) : Prop := ∃ i, i < m ∧ t.b i = v
theorem inB_turn {t : Tab} {r c v : Nat} (g : Good m N t) (hr : r < m) : InB m (turn t r c) v ↔ v = c ∨ (InB m t v ∧ v ≠ t.b r) := by
  constructor
  · rintro ⟨i, hi, e⟩
    have e' : (if i = r then c else t.b i) = v := e
    by_cases z : i = r
    · rw [if_pos z] at e'
      exact .inl e'.symm
    · rw [if_neg z] at e'
      exact .inr ⟨⟨i, hi, e'⟩, fun q => z (g.inj i r hi hr (e'.trans q))⟩
  · rintro (e | ⟨⟨i, hi, e⟩, n⟩)
    · exact ⟨r, hr, by show (if r = r then c else t.b r) = v; rw [if_pos rfl]; exact e.symm⟩
    · refine ⟨i, hi, ?_⟩
      show (if i = r then c else t.b i) = v
      rw [if_neg fun q => n (by rw [← e, q])]
      exact e
/-- the objective never falls -/
theorem Hist.up (a : Hist m N h rc K) {k : Nat} (hk : k < K) : (h (k + 1)).z N = (h k).z N - (h k).z (rc k).2 * ((h k).T (rc k).1 N / (h k).T (rc k).1 (rc k).2) ∧ (h k).z N ≤ (h (k + 1)).z N := by
  have s := a.step k hk
  have f := (a.goods k (by omega)).2
  have e : (h (k + 1)).z N = (h k).z N - (h k).z (rc k).2 * ((h k).T (rc k).1 N / (h k).T (rc k).1 (rc k).2) := by
    rw [a.next k hk]
    rfl
  have h0 := quot_nonneg (f _ s.hr) s.pos
  have h1 : 0 ≤ (- (h k).z (rc k).2) * ((h k).T (rc k).1 N / (h k).T (rc k).1 (rc k).2) := mul_nonneg' (by have := s.neg; grind) h0
  exact ⟨e, by grind⟩
theorem Hist.ups (a : Hist m N h rc K) {p : Nat} : ∀ q, p ≤ q → q ≤ K → (h p).z N ≤ (h q).z N := fun q => by
  induction q with
  | zero =>
    intro h1 _
    have : p = 0 := by omega
    subst this
    exact Rat.le_refl
  | succ q ih =>
    intro h1 h2
    by_cases e : p = q + 1
    · subst e
      exact Rat.le_refl
    · exact Rat.le_trans (ih (by omega) (by omega)) (a.up (by omega)).2
/-- same lots of bases: the same last row -/
theorem same_z {t u : Tab} (gt : Good m N t) (gu : Good m N u) (hk : ∀ x, Ker m N t x ↔ Ker m N u x) (hz : ∀ x, Ker m N t x → zdot N t x = zdot N u x) (hb : ∀ v, InB m t v ↔ InB m u v) : ∀ j, j < N + 1 → t.z j = u.z j := fun j hj => by
  by_cases b : InB m t j
  · obtain ⟨i, hi, e⟩ := b
    obtain ⟨k, hk2, e2⟩ := (hb j).mp ⟨i, hi, e⟩
    rw [← e, gt.zero i hi, e, ← e2, gu.zero k hk2]
  · have b2 : ¬ InB m u j := fun q => b ((hb j).mpr q)
    have k1 := ker_kv gt hj
    have k2 := ker_kv gu hj
    -- both vectors are one
    have d : ∀ l, l < N + 1 → kv m t j l - kv m u j l = 0 := by
      refine ker_at (x := fun l => kv m t j l - kv m u j l) gt (fun i hi => ?_) fun l hl hn => ?_
      · have e1 := k1 i hi
        have e2 := ((hk _).mpr k2) i hi
        have e3 : sm (N + 1) (fun l => t.T i l * (kv m t j l - kv m u j l)) = sm (N + 1) (fun l => t.T i l * kv m t j l - t.T i l * kv m u j l) := sm_congr fun l _ => by grind
        rw [e3, sm_sub, e1, e2]; grind
      · have e1 : kv m t j l = if l = j then 1 else 0 := vec_other hn
        have e2 : kv m u j l = if l = j then 1 else 0 := vec_other fun i hi q => by
          obtain ⟨k, hk2, e2⟩ := (hb l).mpr ⟨i, hi, q⟩
          exact hn k hk2 e2
        rw [e1, e2]; grind
    have e1 := zdot_kv gt hj
    have e2 := zdot_kv gu hj
    have e3 := hz _ k1
    have e4 : zdot N u (kv m t j) = zdot N u (kv m u j) := sm_congr fun l hl => by
      have := d l hl
      have : kv m t j l = kv m u j l := by grind
      rw [this]
    rw [← e1, e3, e4, e2]
/-- the value of a variable -/
def val (m N : Nat) (t : Tab) (v : Nat) : Rat := sm m fun i => if t.b i = v then t.T i N else 0
theorem val_base {t : Tab} (g : Good m N t) {i : Nat} (hi : i < m) : val m N t (t.b i) = t.T i N := by
  unfold val
  have e : sm m (fun k => if t.b k = t.b i then t.T k N else 0) = sm m (fun k => if k = i then t.T k N else 0) := sm_congr fun k hk => by
    by_cases z : k = i
    · rw [z, if_pos rfl, if_pos rfl]
    · rw [if_neg z, if_neg fun q => z (g.inj k i hk hi q)]
  rw [e, sm_one hi]
theorem val_non {t : Tab} {v : Nat} (hn : ¬ InB m t v) : val m N t v = 0 := sm_zero fun i hi => if_neg fun q => hn ⟨i, hi, q⟩
theorem bland {a : Hist m N h rc K} {s t : Nat} (hst : s < t) (ht : t ≤ K) (hb : ∀ v, InB m (h s) v ↔ InB m (h t) v) : False := by
  have G := fun k (hk : k ≤ t) => (a.goods k (by omega)).1
  have F := fun k (hk : k ≤ t) => (a.goods k (by omega)).2
  have kk : ∀ p q, p ≤ t → q ≤ t → ∀ x, Ker m N (h p) x ↔ Ker m N (h q) x := fun p q hp hq x => (a.ker x p (by omega)).trans (a.ker x q (by omega)).symm
  have zz : ∀ p q, p ≤ t → q ≤ t → ∀ x, Ker m N (h p) x → K68.zdot N (h p) x = K68.zdot N (h q) x := fun p q hp hq x hx => by
    have h0 := (a.ker x p (by omega)).mp hx
    rw [a.zdot x h0 p (by omega), a.zdot x h0 q (by omega)]
  -- the objective stays
  have zN : (h s).z N = (h t).z N := same_z (G s (by omega)) (G t (by omega)) (kk s t (by omega) (by omega)) (zz s t (by omega) (by omega)) hb N (by omega)
  have flat : ∀ k, s ≤ k → k < t → (h k).T (rc k).1 N = 0 := fun k h1 h2 => by
    have u1 := a.ups (p := s) k h1 (by omega)
    have u2 := a.ups (p := k + 1) t (by omega) (by omega)
    obtain ⟨u3, u4⟩ := a.up (k := k) (by omega)
    have st := a.step k (by omega)
    have e : (h k).z (rc k).2 * ((h k).T (rc k).1 N / (h k).T (rc k).1 (rc k).2) = 0 := by grind
    have n := st.neg
    have p := st.pos
    have e2 : (h k).T (rc k).1 N / (h k).T (rc k).1 (rc k).2 = 0 := by
      rcases Rat.mul_eq_zero.mp e with q | q
      · grind
      · exact q
    grind
  -- values stay
  have vstep : ∀ k, s ≤ k → k < t → ∀ v, val m N (h (k + 1)) v = val m N (h k) v := fun k h1 h2 v => by
    have st := a.step k (by omega)
    have e0 := flat k h1 h2
    have g := G k (by omega)
    have g' := G (k + 1) (by omega)
    have en := a.next k (by omega)
    by_cases b : InB m (h (k + 1)) v
    · obtain ⟨i, hi, rfl⟩ := b
      rw [val_base g' hi]
      rw [en]
      show (if i = (rc k).1 then (h k).T (rc k).1 N / (h k).T (rc k).1 (rc k).2 else (h k).T i N - (h k).T i (rc k).2 * ((h k).T (rc k).1 N / (h k).T (rc k).1 (rc k).2)) = val m N (h k) (if i = (rc k).1 then (rc k).2 else (h k).b i)
      rw [e0]
      by_cases z : i = (rc k).1
      · rw [if_pos z, if_pos z, val_non]
        · grind
        · rintro ⟨l, hl, e⟩
          have n := st.neg
          rw [← e, g.zero l hl] at n
          grind
      · rw [if_neg z, if_neg z, val_base g hi]; grind
    · rw [val_non b]
      by_cases b2 : InB m (h k) v
      · by_cases e : v = (h k).b (rc k).1
        · rw [e, val_base g st.hr, e0]
        · refine absurd ?_ b
          rw [en, inB_turn g st.hr]
          exact .inr ⟨b2, e⟩
      · rw [val_non b2]
  have vals : ∀ k, s ≤ k → k ≤ t → ∀ v, val m N (h k) v = val m N (h s) v := fun k => by
    induction k with
    | zero =>
      intro h1 _ v
      have : s = 0 := by omega
      rw [this]
    | succ k ih =>
      intro h1 h2 v
      by_cases e : s = k + 1
      · rw [e]
      · rw [vstep k (by omega) (by omega), ih (by omega) (by omega)]
  -- what is no base at some time is nothing worth at all times
  have fick : ∀ v, (∃ k, s ≤ k ∧ k ≤ t ∧ ¬ InB m (h k) v) → ∀ k, s ≤ k → k ≤ t → val m N (h k) v = 0 := fun v ⟨k0, a1, a2, a3⟩ k h1 h2 => by
    rw [vals k h1 h2, ← vals k0 a1 a2, val_non a3]
  -- a variable that comes in also leaves
  have moves : ∀ v p, s ≤ p → p ≤ t → ¬ InB m (h p) v → ∀ q, s ≤ q → q ≤ t → InB m (h q) v → (∃ k, s ≤ k ∧ k < t ∧ (rc k).2 = v) ∧ ∃ k, s ≤ k ∧ k < t ∧ (h k).b (rc k).1 = v := by
    -- along a stretch
    have inn : ∀ v p q, p ≤ q → s ≤ p → q ≤ t → ¬ InB m (h p) v → InB m (h q) v → ∃ k, p ≤ k ∧ k < q ∧ (rc k).2 = v := fun v p q => by
      induction q with
      | zero =>
        intro h1 _ _ n y
        have : p = 0 := by omega
        rw [this] at n
        exact absurd y n
      | succ q ih =>
        intro h1 h2 h3 n y
        by_cases e : p = q + 1
        · rw [e] at n
          exact absurd y n
        · by_cases y2 : InB m (h q) v
          · obtain ⟨k, k1, k2, k3⟩ := ih (by omega) h2 (by omega) n y2
            exact ⟨k, k1, by omega, k3⟩
          · rw [a.next q (by omega), inB_turn (G q (by omega)) (a.step q (by omega)).hr] at y
            rcases y with y | ⟨y, _⟩
            · exact ⟨q, by omega, by omega, y.symm⟩
            · exact absurd y y2
    have out : ∀ v p q, p ≤ q → s ≤ p → q ≤ t → InB m (h p) v → ¬ InB m (h q) v → ∃ k, p ≤ k ∧ k < q ∧ (h k).b (rc k).1 = v := fun v p q => by
      induction q with
      | zero =>
        intro h1 _ _ n y
        have : p = 0 := by omega
        rw [this] at n
        exact absurd n y
      | succ q ih =>
        intro h1 h2 h3 n y
        by_cases e : p = q + 1
        · rw [e] at n
          exact absurd n y
        · by_cases y2 : InB m (h q) v
          · rw [a.next q (by omega), inB_turn (G q (by omega)) (a.step q (by omega)).hr] at y
            by_cases e2 : v = (h q).b (rc q).1
            · exact ⟨q, by omega, by omega, e2.symm⟩
            · exact absurd (.inr ⟨y2, e2⟩) y
          · obtain ⟨k, k1, k2, k3⟩ := ih (by omega) h2 (by omega) n y2
            exact ⟨k, k1, by omega, k3⟩
    intro v p p1 p2 n q q1 q2 y
    by_cases ys : InB m (h s) v
    · have yt := (hb v).mp ys
      obtain ⟨k, k1, k2, k3⟩ := inn v p t p2 p1 (Nat.le_refl _) n yt
      obtain ⟨l, l1, l2, l3⟩ := out v s p p1 (Nat.le_refl _) p2 ys n
      exact ⟨⟨k, by omega, k2, k3⟩, ⟨l, l1, by omega, l3⟩⟩
    · have yt : ¬ InB m (h t) v := fun z => ys ((hb v).mpr z)
      obtain ⟨k, k1, k2, k3⟩ := inn v s q q1 (Nat.le_refl _) q2 ys y
      obtain ⟨l, l1, l2, l3⟩ := out v q t q2 q1 (Nat.le_refl _) y yt
      exact ⟨⟨k, k1, by omega, k3⟩, ⟨l, by omega, l2, l3⟩⟩
  -- the greatest that comes in
  have big : ∀ n, s < n → n ≤ t → ∃ p, s ≤ p ∧ p < n ∧ ∀ k, s ≤ k → k < n → (rc k).2 ≤ (rc p).2 := fun n => by
    induction n with
    | zero => intro h1 _; omega
    | succ n ih =>
      intro h1 h2
      by_cases e : s = n
      · exact ⟨s, Nat.le_refl _, by omega, fun k k1 k2 => by
          have : k = s := by omega
          rw [this]
          exact Nat.le_refl _⟩
      · obtain ⟨p, p1, p2, p3⟩ := ih (by omega) (by omega)
        by_cases c : (rc n).2 ≤ (rc p).2
        · exact ⟨p, p1, by omega, fun k k1 k2 => by
            by_cases z : k = n
            · rw [z]; exact c
            · exact p3 k k1 (by omega)⟩
        · exact ⟨n, by omega, by omega, fun k k1 k2 => by
            by_cases z : k = n
            · rw [z]; exact Nat.le_refl _
            · have := p3 k k1 (by omega); omega⟩
  obtain ⟨p, p1, p2, p3⟩ := big t hst (Nat.le_refl _)
  have sp := a.step p (by omega)
  -- it comes in at p; it leaves at q
  have notp : ¬ InB m (h p) (rc p).2 := by
    rintro ⟨l, hl, e⟩
    have n := sp.neg
    rw [← e, (G p (by omega)).zero l hl] at n
    grind
  have yesp : InB m (h (p + 1)) (rc p).2 := by
    rw [a.next p (by omega), inB_turn (G p (by omega)) sp.hr]
    exact .inl rfl
  obtain ⟨_, q, q1, q2, q3⟩ := moves _ p p1 (by omega) notp (p + 1) (by omega) (by omega) yesp
  have sq := a.step q (by omega)
  have gq := G q (by omega)
  have gp := G p (by omega)
  -- the direction of the turn at q
  have k1 : Ker m N (h q) (kv m (h q) (rc q).2) := ker_kv gq (by have := sq.hc; omega)
  have e1 : K68.zdot N (h q) (kv m (h q) (rc q).2) = (h q).z (rc q).2 := zdot_kv gq (by have := sq.hc; omega)
  have e2 := zz q p (by omega) (by omega) _ k1
  have e3 : K68.zdot N (h p) (kv m (h q) (rc q).2) = (h p).z (rc q).2 - sm m (fun i => (h p).z ((h q).b i) * (h q).T i (rc q).2) := dot_vec (by have := sq.hc; omega) fun i hi => by have := gq.lt i hi; omega
  have c1 : (rc q).2 ≤ (rc p).2 := p3 q q1 q2
  have notq : ¬ InB m (h q) (rc q).2 := by
    rintro ⟨l, hl, e⟩
    have n := sq.neg
    rw [← e, gq.zero l hl] at n
    grind
  have c2 : (rc q).2 ≠ (rc p).2 := fun e => notq ⟨(rc q).1, sq.hr, by rw [q3, e]⟩
  have c3 : 0 ≤ (h p).z (rc q).2 := sp.first _ (by omega)
  have c4 : 0 ≤ sm m (fun i => - ((h p).z ((h q).b i) * (h q).T i (rc q).2)) := sm_nonneg fun i hi => by
    by_cases bp : InB m (h p) ((h q).b i)
    · obtain ⟨l, hl, e⟩ := bp
      rw [← e, gp.zero l hl]; grind
    · -- it is none of the bases at p: it comes in at some time
      obtain ⟨⟨k, w1, w2, w3⟩, _⟩ := moves _ p p1 (by omega) bp q q1 (by omega) ⟨i, hi, rfl⟩
      have w4 : (h q).b i ≤ (rc p).2 := by rw [← w3]; exact p3 k w1 w2
      by_cases ei : i = (rc q).1
      · -- the one that leaves
        rw [ei, q3]
        have n1 := sp.neg
        have n2 := sq.pos
        have := mul_pos' (show 0 < - (h p).z (rc p).2 by grind) n2
        grind
      · have w5 : (h q).b i < (rc p).2 := by
          have : (h q).b i ≠ (rc p).2 := fun z => ei (gq.inj i _ hi sq.hr (by rw [z, q3]))
          omega
        have w6 : 0 ≤ (h p).z ((h q).b i) := sp.first _ w5
        have w7 : (h q).T i N = 0 := by rw [← val_base gq hi]; exact fick _ ⟨p, p1, by omega, bp⟩ q q1 (by omega)
        have w8 : ¬ 0 < (h q).T i (rc q).2 := fun hp => by
          have t1 := sq.tie i hi hp (by rw [flat q q1 q2, w7]; grind)
          rw [q3] at t1
          omega
        have := mul_nonneg' w6 (show 0 ≤ - (h q).T i (rc q).2 by grind)
        grind
  have c5 : sm m (fun i => - ((h p).z ((h q).b i) * (h q).T i (rc q).2)) = - sm m (fun i => ((h p).z ((h q).b i) * (h q).T i (rc q).2)) := by
    have e : sm m (fun i => - ((h p).z ((h q).b i) * (h q).T i (rc q).2)) = sm m (fun i => (-1) * ((h p).z ((h q).b i) * (h q).T i (rc q).2)) := sm_congr fun i _ => by grind
    rw [e, sm_mul]; grind
  have n := sq.neg
  grind
end
end K68
/-! a history is short -/
namespace K68
def allB : Nat → List (List Bool)
  | 0 => [[]]
  | n + 1 => (allB n).flatMap fun l => [l ++ [false], l ++ [true]]
theorem allB_len (n : Nat) : (allB n).length = 2 ^ n := by
  induction n with
  | zero => rfl
  | succ n ih =>
    have e : ∀ L : List (List Bool), (L.flatMap fun l => [l ++ [false], l ++ [true]]).length = 2 * L.length := fun L => by
      induction L with
      | nil => rfl
      | cons a r ih => simp only [List.flatMap_cons, List.length_append, List.length_cons, List.length_nil, ih]; omega
    rw [allB, e, ih, Nat.pow_succ]; omega
theorem allB_mem (f : Nat → Bool) (n : Nat) : (List.range n).map f ∈ allB n := by
  induction n with
  | zero => exact List.mem_singleton.mpr rfl
  | succ n ih =>
    rw [List.range_succ, List.map_append, allB, List.mem_flatMap]
    refine ⟨_, ih, ?_⟩
    cases e : f n with
    | false => simp [e]
    | true => simp [e]
theorem len_of_nodup {α : Type} [DecidableEq α] : ∀ (l L : List α), l.Nodup → (∀ x ∈ l, x ∈ L) → l.length ≤ L.length
  | [], _, _, _ => Nat.zero_le _
  | a :: r, L, hn, hs => by
    have ha := hs a List.mem_cons_self
    have hr := len_of_nodup r (L.erase a) (List.nodup_cons.mp hn).2 fun x hx => by
      have hne : x ≠ a := fun e => (List.nodup_cons.mp hn).1 (e ▸ hx)
      exact (List.mem_erase_of_ne hne).mpr (hs x (List.mem_cons_of_mem _ hx))
    have e := List.length_erase_of_mem ha
    have p : 0 < L.length := List.length_pos_of_mem ha
    show r.length + 1 ≤ L.length
    omega
open Classical in
noncomputable def code (m N : Nat) (t : Tab) : List Bool := (List.range N).map fun v => decide (InB m t v)
theorem code_inj {m N : Nat} {t u : Tab} (gt : Good m N t) (gu : Good m N u) (h : code m N t = code m N u) (v : Nat) : InB m t v ↔ InB m u v := by
  by_cases hv : v < N
  · have e : (code m N t)[v]? = (code m N u)[v]? := by rw [h]
    unfold code at e
    rw [List.getElem?_map, List.getElem?_map, List.getElem?_range hv] at e
    have e2 := Option.some.inj e
    exact decide_eq_decide.mp e2
  · constructor
    · rintro ⟨i, hi, e⟩
      have := gt.lt i hi
      omega
    · rintro ⟨i, hi, e⟩
      have := gu.lt i hi
      omega
/-- fewer turns than lots of variables -/
theorem Hist.short {m N K : Nat} {h : Nat → Tab} {rc : Nat → Nat × Nat} (a : Hist m N h rc K) : K < 2 ^ N := by
  have nd : ((List.range (K + 1)).map fun k => code m N (h k)).Nodup := by
    rw [List.nodup_iff_pairwise_ne, List.pairwise_map]
    have p : (List.range (K + 1)).Pairwise (· < ·) := List.pairwise_lt_range
    refine p.imp_of_mem fun {i j} hi hj hij e => ?_
    rw [List.mem_range] at hi hj
    exact bland (a := a) hij (by omega) (code_inj (a.goods i (by omega)).1 (a.goods j (by omega)).1 e)
  have l := len_of_nodup _ (allB N) nd fun x hx => by
    obtain ⟨k, _, e⟩ := List.mem_map.mp hx
    rw [← e]
    exact allB_mem _ N
  rw [allB_len, List.length_map, List.length_range] at l
  omega
/-- one turn more -/
theorem Hist.more {m N K : Nat} {h : Nat → Tab} {rc : Nat → Nat × Nat} (a : Hist m N h rc K) {r c : Nat} (s : Step m N (h K) r c) :
    Hist m N (fun k => if k = K + 1 then turn (h K) r c else h k) (fun k => if k = K then (r, c) else rc k) (K + 1) where
  good := by show Good m N (if 0 = K + 1 then _ else h 0); rw [if_neg (by omega)]; exact a.good
  feas := by show Feas m N (if 0 = K + 1 then _ else h 0); rw [if_neg (by omega)]; exact a.feas
  step := fun k hk => by
    show Step m N (if k = K + 1 then turn (h K) r c else h k) (if k = K then (r, c) else rc k).1 (if k = K then (r, c) else rc k).2
    rw [if_neg (by omega)]
    by_cases e : k = K
    · rw [if_pos e, e]; exact s
    · rw [if_neg e]; exact a.step k (by omega)
  next := fun k hk => by
    show (if k + 1 = K + 1 then turn (h K) r c else h (k + 1)) = turn (if k = K + 1 then turn (h K) r c else h k) (if k = K then (r, c) else rc k).1 (if k = K then (r, c) else rc k).2
    rw [if_neg (show ¬ k = K + 1 by omega)]
    by_cases e : k = K
    · rw [if_pos (by omega), if_pos e, e]
    · rw [if_neg (by omega), if_neg e]; exact a.next k (by omega)
end K68
/-! from the first table to the last one: what is told is a solution -/
namespace K68
def tab0 (n m : Nat) (A : Nat → Nat → Rat) : Tab where
  T := fun i j => if j < n then A i j else if j = n + m then 1 else if j = n + i then 1 else 0
  z := fun j => if j < n then -1 else 0
  b := fun i => n + i
section
variable {n m : Nat} {A : Nat → Nat → Rat}
theorem good0 : Good m (n + m) (tab0 n m A) where
  lt := fun i hi => by show n + i < n + m; omega
  inj := fun i k _ _ e => by have e' : n + i = n + k := e; omega
  unit := fun i k hi hk => by
    show (if n + k < n then _ else if n + k = n + m then 1 else if n + k = n + i then 1 else 0) = _
    rw [if_neg (by omega), if_neg (by omega)]
    by_cases z : i = k
    · rw [if_pos (by omega), if_pos z]
    · rw [if_neg (by omega), if_neg z]
  zero := fun k _ => by
    show (if n + k < n then (-1 : Rat) else 0) = 0
    rw [if_neg (by omega)]
theorem t0N (i : Nat) : (tab0 n m A).T i (n + m) = 1 := by
  show (if n + m < n then _ else if n + m = n + m then 1 else _) = _
  rw [if_neg (by omega), if_pos rfl]
theorem t0c {i c : Nat} (hc : c < n) : (tab0 n m A).T i c = A i c := by
  show (if c < n then _ else _) = _
  rw [if_pos hc]
theorem feas0 : Feas m (n + m) (tab0 n m A) := fun i _ => by
  rw [t0N]; decide
theorem ker0 {x : Nat → Rat} (h : Ker m (n + m) (tab0 n m A) x) {i : Nat} (hi : i < m) : sm n (fun j => A i j * x j) + x (n + i) + x (n + m) = 0 := by
  have e := h i hi
  rw [sm] at e
  rw [sm_split] at e
  have e1 : sm n (fun j => (tab0 n m A).T i j * x j) = sm n (fun j => A i j * x j) := sm_congr fun j hj => by rw [t0c hj]
  have e2 : sm m (fun j => (tab0 n m A).T i (n + j) * x (n + j)) = sm m (fun j => if j = i then x (n + j) else 0) := sm_congr fun j hj => by
    show (if n + j < n then _ else if n + j = n + m then 1 else if n + j = n + i then 1 else 0) * _ = _
    rw [if_neg (by omega), if_neg (by omega)]
    by_cases z : j = i
    · rw [if_pos (by omega), if_pos z]; grind
    · rw [if_neg (by omega), if_neg z]; grind
  rw [e1, e2, sm_one (f := fun j => x (n + j)) hi, t0N] at e
  grind
theorem zdot0 {x : Nat → Rat} : zdot (n + m) (tab0 n m A) x = - sm n x := by
  unfold zdot
  rw [sm, sm_split]
  have e1 : sm n (fun j => (tab0 n m A).z j * x j) = sm n (fun j => (-1) * x j) := sm_congr fun j hj => by
    show (if j < n then (-1 : Rat) else 0) * _ = _
    rw [if_pos hj]
  have e2 : sm m (fun j => (tab0 n m A).z (n + j) * x (n + j)) = 0 := sm_zero fun j _ => by
    show (if n + j < n then (-1 : Rat) else 0) * _ = _
    rw [if_neg (by omega)]; grind
  have e3 : (tab0 n m A).z (n + m) = 0 := by
    show (if n + m < n then (-1 : Rat) else 0) = 0
    rw [if_neg (by omega)]
  rw [e1, e2, e3, sm_mul]; grind
/-- a table that comes of the first one -/
structure Comes (n m : Nat) (A : Nat → Nat → Rat) (t : Tab) : Prop where
  good : Good m (n + m) t
  feas : Feas m (n + m) t
  ker : ∀ x, Ker m (n + m) t x ↔ Ker m (n + m) (tab0 n m A) x
  dot : ∀ x, Ker m (n + m) (tab0 n m A) x → zdot (n + m) t x = - sm n x
theorem Hist.comes {K : Nat} {h : Nat → Tab} {rc : Nat → Nat × Nat} (a : Hist m (n + m) h rc K) (h0 : h 0 = tab0 n m A) : Comes n m A (h K) where
  good := (a.goods K (Nat.le_refl _)).1
  feas := (a.goods K (Nat.le_refl _)).2
  ker := fun x => by rw [← h0]; exact a.ker x K (Nat.le_refl _)
  dot := fun x hx => by rw [a.zdot x (by rw [h0]; exact hx) K (Nat.le_refl _), h0, zdot0]
theorem kv_nonneg {t : Tab} {c j : Nat} (h : ∀ i, i < m → t.T i c ≤ 0) : 0 ≤ kv m t c j := by
  have e : kv m t c j = (if j = c then 1 else 0) + sm m (fun i => if j = t.b i then - t.T i c else 0) := by
    have e1 : sm m (fun i => if j = t.b i then - t.T i c else 0) = - sm m (fun i => if j = t.b i then t.T i c else 0) := by
      have e2 : sm m (fun i => if j = t.b i then - t.T i c else 0) = sm m (fun i => (-1) * (if j = t.b i then t.T i c else 0)) := sm_congr fun i _ => by split <;> grind
      rw [e2, sm_mul]; grind
    rw [e1]
    show (if j = c then (1 : Rat) else 0) - _ = _
    grind
  rw [e]
  have p := sm_nonneg (n := m) (f := fun i => if j = t.b i then - t.T i c else 0) fun i hi => by
    have := h i hi
    show 0 ≤ (if j = t.b i then - t.T i c else 0)
    split <;> grind
  split <;> grind
/-- a column by which there is more is bounded by some row -/
theorem Comes.bound {t : Tab} (a : Comes n m A t) (hA : ∀ i j, i < m → j < n → 1 ≤ A i j) (hm : 0 < m) {c : Nat} (hc : c < n + m) (hz : t.z c < 0) : ∃ i, i < m ∧ 0 < t.T i c := Classical.byContradiction fun no => by
  have neg : ∀ i, i < m → t.T i c ≤ 0 := fun i hi => by
    have : ¬ 0 < t.T i c := fun z => no ⟨i, hi, z⟩
    grind
  have k := ker_kv a.good (show c < n + m + 1 by omega)
  have k0 := (a.ker _).mp k
  have e1 := zdot_kv a.good (show c < n + m + 1 by omega)
  have e2 := a.dot _ k0
  have e3 := ker0 k0 hm
  have p1 := kv_nonneg (m := m) (t := t) (c := c) (j := n + 0) neg
  have p2 := kv_nonneg (m := m) (t := t) (c := c) (j := n + m) neg
  have p3 : sm n (kv m t c) ≤ sm n (fun j => A 0 j * kv m t c j) := sm_le fun j hj => by
    have h1 := hA 0 j hm hj
    have h2 := kv_nonneg (m := m) (t := t) (c := c) (j := j) neg
    have := mul_nonneg' (show 0 ≤ A 0 j - 1 by grind) h2
    grind
  grind
theorem kvN {t : Tab} (g : Good m (n + m) t) {j : Nat} (hj : j < n + m) : kv m t (n + m) j = - val m (n + m) t j := by
  unfold kv vec val
  rw [if_neg (by omega)]
  have e : sm m (fun i => if j = t.b i then t.T i (n + m) else 0) = sm m (fun i => if t.b i = j then t.T i (n + m) else 0) := sm_congr fun i _ => by
    by_cases z : t.b i = j
    · rw [if_pos z, if_pos z.symm]
    · rw [if_neg z, if_neg (Ne.symm z)]
  rw [e]; grind
theorem kvNN {t : Tab} (g : Good m (n + m) t) : kv m t (n + m) (n + m) = 1 := by
  have e := vec_other (m := m) (b := t.b) (w := fun i => t.T i (n + m)) (c := n + m) (j := n + m) fun i hi => by have := g.lt i hi; omega
  rw [if_pos rfl] at e
  exact e
/-- what the last table tells -/
structure Last (n m : Nat) (A : Nat → Nat → Rat) (x y : Nat → Rat) (w : Rat) : Prop where
  xs : ∀ j, j < n → 0 ≤ x j
  ys : ∀ i, i < m → 0 ≤ y i
  sx : sm n x = w
  sy : sm m y = w
  rows : ∀ i, i < m → sm n (fun j => A i j * x j) ≤ 1
  cols : ∀ j, j < n → 1 ≤ sm m (fun i => y i * A i j)
theorem Comes.last {t : Tab} (a : Comes n m A t) (hz : ∀ j, j < n + m → 0 ≤ t.z j) : Last n m A (val m (n + m) t) (fun i => t.z (n + i)) (t.z (n + m)) := by
  have vp : ∀ v, 0 ≤ val m (n + m) t v := fun v => sm_nonneg fun i hi => by
    have := a.feas i hi
    show 0 ≤ (if t.b i = v then t.T i (n + m) else 0)
    split <;> grind
  have k := ker_kv a.good (show n + m < n + m + 1 by omega)
  have k0 := (a.ker _).mp k
  have e1 := zdot_kv a.good (show n + m < n + m + 1 by omega)
  have e2 := a.dot _ k0
  refine ⟨fun j _ => vp j, fun i hi => hz _ (by omega), ?_, ?_, fun i hi => ?_, fun j hj => ?_⟩
  · have e3 : sm n (kv m t (n + m)) = sm n (fun j => (-1) * val m (n + m) t j) := sm_congr fun j hj => by rw [kvN a.good (by omega)]; grind
    rw [e3, sm_mul] at e2
    show sm n (val m (n + m) t) = _
    grind
  · have q := ker_kv (good0 (n := n) (m := m) (A := A)) (show n + m < n + m + 1 by omega)
    have d1 := a.dot _ q
    have d2 := zdot0 (n := n) (m := m) (A := A) (x := kv m (tab0 n m A) (n + m))
    have d3 := zdot_kv (good0 (n := n) (m := m) (A := A)) (show n + m < n + m + 1 by omega)
    have d4 : zdot (n + m) t (kv m (tab0 n m A) (n + m)) = t.z (n + m) - sm m (fun i => t.z (n + i) * (tab0 n m A).T i (n + m)) := dot_vec (b := (tab0 n m A).b) (by omega) fun i hi => by show n + i < _; omega
    have d5 : sm m (fun i => t.z (n + i) * (tab0 n m A).T i (n + m)) = sm m (fun i => t.z (n + i)) := sm_congr fun i _ => by rw [t0N]; grind
    have d6 : (tab0 n m A).z (n + m) = 0 := by
      show (if n + m < n then (-1 : Rat) else 0) = 0
      rw [if_neg (by omega)]
    show sm m (fun i => t.z (n + i)) = _
    grind
  · have e3 := ker0 k0 hi
    rw [kvNN a.good, kvN a.good (show n + i < n + m by omega)] at e3
    have e4 : sm n (fun j => A i j * kv m t (n + m) j) = sm n (fun j => (-1) * (A i j * val m (n + m) t j)) := sm_congr fun j hj => by rw [kvN a.good (by omega)]; grind
    rw [e4, sm_mul] at e3
    have := vp (n + i)
    grind
  · have q := ker_kv (good0 (n := n) (m := m) (A := A)) (show j < n + m + 1 by omega)
    have d1 := a.dot _ q
    have d2 := zdot0 (n := n) (m := m) (A := A) (x := kv m (tab0 n m A) j)
    have d3 := zdot_kv (good0 (n := n) (m := m) (A := A)) (show j < n + m + 1 by omega)
    have d4 : zdot (n + m) t (kv m (tab0 n m A) j) = t.z j - sm m (fun i => t.z (n + i) * (tab0 n m A).T i j) := dot_vec (b := (tab0 n m A).b) (by omega) fun i hi => by show n + i < _; omega
    have d5 : sm m (fun i => t.z (n + i) * (tab0 n m A).T i j) = sm m (fun i => t.z (n + i) * A i j) := sm_congr fun i _ => by rw [t0c hj]
    have d6 : (tab0 n m A).z j = -1 := by
      show (if j < n then (-1 : Rat) else 0) = -1
      rw [if_pos hj]
    have := hz j (by omega)
    show 1 ≤ sm m (fun i => t.z (n + i) * A i j)
    grind
theorem Last.pos {x y : Nat → Rat} {w : Rat} (a : Last n m A x y w) (hn : 0 < n) : 0 < w := Classical.byContradiction fun no => by
  have h0 : 0 ≤ w := by rw [← a.sy]; exact sm_nonneg a.ys
  have e : w = 0 := by grind
  have c := a.cols 0 hn
  have z : ∀ i, i < m → y i = 0 := fun i hi => by
    have h1 := sm_pos_le a.ys hi
    have h2 := a.ys i hi
    have h3 := a.sy
    grind
  rw [sm_zero fun i hi => by rw [z i hi]; grind] at c
  grind
/-- a value with shares of rows and of columns that show it -/
structure Sol (m n : Nat) (M : Nat → Nat → Rat) (v : Rat) (p q : Nat → Rat) : Prop where
  ps : ∀ i, i < m → 0 ≤ p i
  qs : ∀ j, j < n → 0 ≤ q j
  sp : sm m p = 1
  sq : sm n q = 1
  least : ∀ j, j < n → v ≤ sm m (fun i => p i * M i j)
  most : ∀ i, i < m → sm n (fun j => q j * M i j) ≤ v
theorem Last.sol {M : Nat → Nat → Rat} {x y : Nat → Rat} {w : Rat} (a : Last n m (fun i j => M i j + 1) x y w) (hn : 0 < n) : Sol m n M (1 / w - 1) (fun i => y i / w) (fun j => x j / w) := by
  have hw := a.pos hn
  have i0 : 0 < 1 / w := by rw [Rat.div_def, Rat.one_mul]; exact Rat.inv_pos.mpr hw
  have sd : ∀ k f, sm k (fun i => f i / w) = sm k f * (1 / w) := fun k f => by
    rw [← sm_mulr]
    exact sm_congr fun i _ => by grind
  refine ⟨fun i hi => quot_nonneg (a.ys i hi) hw, fun j hj => quot_nonneg (a.xs j hj) hw, ?_, ?_, fun j hj => ?_, fun i hi => ?_⟩
  · rw [sd, a.sy]; grind
  · rw [sd, a.sx]; grind
  · have c := a.cols j hj
    have e : sm m (fun i => y i / w * M i j) = (sm m (fun i => y i * (M i j + 1)) - sm m y) * (1 / w) := by
      rw [← sm_sub, ← sm_mulr]
      exact sm_congr fun i _ => by grind
    rw [e, a.sy]
    have := mul_nonneg' (show 0 ≤ sm m (fun i => y i * (M i j + 1)) - 1 by grind) (Rat.le_of_lt i0)
    grind
  · have c := a.rows i hi
    have e : sm n (fun j => x j / w * M i j) = (sm n (fun j => (M i j + 1) * x j) - sm n x) * (1 / w) := by
      rw [← sm_sub, ← sm_mulr]
      exact sm_congr fun j _ => by grind
    rw [e, a.sx]
    have := mul_nonneg' (show 0 ≤ 1 - sm n (fun j => (M i j + 1) * x j) by grind) (Rat.le_of_lt i0)
    grind
end
end K68
/-! how great the integers of a table can be -/
namespace K68
/-- turns at any place that is not nothing -/
inductive Pv (m N : Nat) (t0 : Tab) : Nat → Tab → Prop
  | zero : Pv m N t0 0 t0
  | succ {k : Nat} {t : Tab} {r c : Nat} : Pv m N t0 k t → r < m → c < N → t.T r c ≠ 0 → Pv m N t0 (k + 1) (turn t r c)
section
variable {m N : Nat} {t0 : Tab}
theorem Pv.good {k : Nat} {t : Tab} (g : Good m N t0) (p : Pv m N t0 k t) : Good m N t := by
  induction p with
  | zero => exact g
  | succ p hr hc hp ih => exact good_turn ih hr hc hp
theorem Pv.ker {k : Nat} {t : Tab} {x : Nat → Rat} (p : Pv m N t0 k t) : Ker m N t x ↔ Ker m N t0 x := by
  induction p with
  | zero => exact Iff.rfl
  | succ p hr hc hp ih => rw [ker_turn hr hp]; exact ih
theorem Pv.dot {k : Nat} {t : Tab} {x : Nat → Rat} (p : Pv m N t0 k t) (hx : Ker m N t0 x) : zdot N t x = zdot N t0 x := by
  induction p with
  | zero => rfl
  | succ p hr hc hp ih => rw [zdot_turn hr hp (p.ker.mpr hx), ih]
/-- the bases of a table, reached by a turn each -/
theorem reach {t : Tab} (g0 : Good m N t0) (g : Good m N t) (hk : ∀ x, Ker m N t x ↔ Ker m N t0 x) : ∀ i, i ≤ m → ∃ k u, k ≤ i ∧ Pv m N t0 k u ∧ ∀ l, l < i → InB m u (t.b l) := fun i => by
  induction i with
  | zero => exact fun _ => ⟨0, t0, Nat.le_refl _, .zero, fun l hl => by omega⟩
  | succ i ih =>
    intro hi
    obtain ⟨k, u, hku, pu, all⟩ := ih (by omega)
    by_cases b : InB m u (t.b i)
    · exact ⟨k, u, by omega, pu, fun l hl => by
        by_cases e : l = i
        · rw [e]; exact b
        · exact all l (by omega)⟩
    · have gu := pu.good g0
      have hc := g.lt i (by omega)
      have ex : ∃ r, r < m ∧ u.T r (t.b i) ≠ 0 ∧ ¬ InB m t (u.b r) := Classical.byContradiction fun no => by
        have z : ∀ r, r < m → ¬ InB m t (u.b r) → u.T r (t.b i) = 0 := fun r hr hb => Classical.byContradiction fun q => no ⟨r, hr, q, hb⟩
        have k1 := (hk _).mpr (pu.ker.mp (ker_kv gu (show t.b i < N + 1 by omega)))
        have k2 := ker_at g k1 (fun j hj hn => by
          show (if j = t.b i then (1 : Rat) else 0) - sm m (fun r => if j = u.b r then u.T r (t.b i) else 0) = 0
          rw [if_neg fun q => hn i (by omega) q.symm, sm_zero fun r hr => by
            by_cases e : j = u.b r
            · rw [if_pos e]
              exact z r hr fun ⟨l, hl, q⟩ => hn l hl (by rw [q, e])
            · rw [if_neg e]]
          grind) (t.b i) (by omega)
        have k3 : kv m u (t.b i) (t.b i) = 1 := by
          have e := vec_other (m := m) (b := u.b) (w := fun r => u.T r (t.b i)) (c := t.b i) (j := t.b i) fun r hr q => b ⟨r, hr, q⟩
          rw [if_pos rfl] at e
          exact e
        rw [k3] at k2
        exact absurd k2 (by decide)
      obtain ⟨r, hr, hp, hb⟩ := ex
      refine ⟨k + 1, _, by omega, .succ pu hr hc hp, fun l hl => ?_⟩
      rw [inB_turn gu hr]
      by_cases e : l = i
      · exact .inl (by rw [e])
      · exact .inr ⟨all l (by omega), fun q => hb ⟨l, by omega, q⟩⟩
theorem same_of {k : Nat} {t u : Tab} (g0 : Good m N t0) (g : Good m N t) (hk : ∀ x, Ker m N t x ↔ Ker m N t0 x) (hz : ∀ x, Ker m N t0 x → zdot N t x = zdot N t0 x) (pu : Pv m N t0 k u)
    (all : ∀ l, l < m → InB m u (t.b l)) : (∀ i, i < m → ∃ l, l < m ∧ ∀ j, j < N + 1 → t.T i j = u.T l j) ∧ ∀ j, j < N + 1 → t.z j = u.z j := by
  have gu := pu.good g0
  constructor
  · intro i hi
    obtain ⟨l, hl, e⟩ := all i hi
    refine ⟨l, hl, fun j hj => ?_⟩
    have k1 := pu.ker.mpr ((hk _).mp (ker_kv g hj)) l hl
    have k2 : sm (N + 1) (fun l' => u.T l l' * kv m t j l') = u.T l j - sm m (fun k => u.T l (t.b k) * t.T k j) := dot_vec hj fun k hk => by have := g.lt k hk; omega
    have k3 : sm m (fun k => u.T l (t.b k) * t.T k j) = sm m (fun k => if k = i then t.T k j else 0) := sm_congr fun k hk => by
      obtain ⟨l2, hl2, e2⟩ := all k hk
      rw [← e2, gu.unit l l2 hl hl2]
      by_cases z : k = i
      · have : l = l2 := gu.inj l l2 hl hl2 (by rw [e, e2, z])
        rw [if_pos this, if_pos z]; grind
      · have : l ≠ l2 := fun q => z (g.inj k i hk hi (by rw [← e2, ← e, q]))
        rw [if_neg this, if_neg z]; grind
    rw [k3, sm_one (f := fun k => t.T k j) hi] at k2
    grind
  · intro j hj
    have k0 := (hk _).mp (ker_kv g hj)
    have e1 := zdot_kv g hj
    have e2 := hz _ k0
    have e3 := pu.dot k0
    have e4 : zdot N u (kv m t j) = u.z j - sm m (fun k => u.z (t.b k) * t.T k j) := dot_vec hj fun k hk => by have := g.lt k hk; omega
    have e5 : sm m (fun k => u.z (t.b k) * t.T k j) = 0 := sm_zero fun k hk => by
      obtain ⟨l2, hl2, q⟩ := all k hk
      rw [← q, gu.zero l2 hl2]; grind
    grind
/-- all numbers of a table over one number, all of them at most S -/
def Szd (m N : Nat) (S : Nat) (t : Tab) : Prop := ∃ d : Int, d ≠ 0 ∧ d.natAbs ≤ S ∧ (∀ i j, i < m → j < N + 1 → ∃ e : Int, t.T i j = (e : Rat) / d ∧ e.natAbs ≤ S) ∧ ∀ j, j < N + 1 → ∃ e : Int, t.z j = (e : Rat) / d ∧ e.natAbs ≤ S
theorem mul_le2 {a b : Int} {S : Nat} (ha : a.natAbs ≤ S) (hb : b.natAbs ≤ S) : (a * b).natAbs ≤ S * S := by
  rw [Int.natAbs_mul]
  exact Nat.mul_le_mul ha hb
theorem cast_ne {d : Int} (h : d ≠ 0) : (d : Rat) ≠ 0 := fun e => h (by exact_mod_cast e)
theorem szd_turn {S : Nat} {t : Tab} {r c : Nat} (h : Szd m N S t) (hr : r < m) (hc : c < N) (hp : t.T r c ≠ 0) : Szd m N (2 * (S * S)) (turn t r c) := by
  obtain ⟨d, hd, hdS, hT, hz⟩ := h
  obtain ⟨p, ep, hpS⟩ := hT r c hr (by omega)
  have hd' := cast_ne hd
  have hp' : (p : Rat) ≠ 0 := fun e => hp (by rw [ep, e]; grind)
  have p0 : p ≠ 0 := fun e => hp' (by rw [e]; rfl)
  refine ⟨d * p, Int.mul_ne_zero hd p0, by have := mul_le2 hdS hpS; omega, fun i j hi hj => ?_, fun j hj => ?_⟩
  · obtain ⟨er, e1, h1⟩ := hT r j hr hj
    obtain ⟨ei, e2, h2⟩ := hT i j hi hj
    obtain ⟨ec, e3, h3⟩ := hT i c hi (by omega)
    by_cases z : i = r
    · refine ⟨er * d, ?_, by have := mul_le2 h1 hdS; omega⟩
      show (if i = r then t.T r j / t.T r c else _) = _
      rw [if_pos z, e1, ep, Rat.intCast_mul, Rat.intCast_mul]; grind
    · refine ⟨ei * p - ec * er, ?_, by have := mul_le2 h2 hpS; have := mul_le2 h3 h1; omega⟩
      show (if i = r then _ else t.T i j - t.T i c * (t.T r j / t.T r c)) = _
      rw [if_neg z, e1, e2, e3, ep, Rat.intCast_sub, Rat.intCast_mul, Rat.intCast_mul, Rat.intCast_mul]; grind
  · obtain ⟨er, e1, h1⟩ := hT r j hr hj
    obtain ⟨ei, e2, h2⟩ := hz j hj
    obtain ⟨ec, e3, h3⟩ := hz c (by omega)
    refine ⟨ei * p - ec * er, ?_, by have := mul_le2 h2 hpS; have := mul_le2 h3 h1; omega⟩
    show t.z j - t.z c * (t.T r j / t.T r c) = _
    rw [e1, e2, e3, ep, Rat.intCast_sub, Rat.intCast_mul, Rat.intCast_mul, Rat.intCast_mul]; grind
/-- the exponents -/
def ex (b : Nat) : Nat → Nat
  | 0 => b
  | k + 1 => 2 * ex b k + 1
theorem ex_mono {b : Nat} : ∀ {k l : Nat}, k ≤ l → ex b k ≤ ex b l := fun {k l} h => by
  induction l with
  | zero => have : k = 0 := by omega
            rw [this]; exact Nat.le_refl _
  | succ l ih =>
    by_cases e : k = l + 1
    · rw [e]; exact Nat.le_refl _
    · have := ih (by omega)
      show ex b k ≤ 2 * ex b l + 1
      omega
theorem Szd.mono {S S' : Nat} {t : Tab} (h : Szd m N S t) (l : S ≤ S') : Szd m N S' t := by
  obtain ⟨d, hd, hdS, hT, hz⟩ := h
  exact ⟨d, hd, by omega, fun i j hi hj => let ⟨e, e1, e2⟩ := hT i j hi hj; ⟨e, e1, by omega⟩, fun j hj => let ⟨e, e1, e2⟩ := hz j hj; ⟨e, e1, by omega⟩⟩
theorem Pv.szd {b k : Nat} {t : Tab} (h : Szd m N (2 ^ b) t0) (p : Pv m N t0 k t) : Szd m N (2 ^ ex b k) t := by
  induction p with
  | zero => exact h
  | succ p hr hc hp ih =>
    rename_i k t r c
    have e : 2 * (2 ^ ex b k * 2 ^ ex b k) = 2 ^ ex b (k + 1) := by
      show _ = 2 ^ (2 * ex b k + 1)
      rw [Nat.pow_succ, ← Nat.pow_add, show ex b k + ex b k = 2 * ex b k by omega]; omega
    rw [← e]
    exact szd_turn ih hr hc hp
theorem szd_of {b : Nat} {t : Tab} (g0 : Good m N t0) (h : Szd m N (2 ^ b) t0) (g : Good m N t) (hk : ∀ x, Ker m N t x ↔ Ker m N t0 x) (hz : ∀ x, Ker m N t0 x → zdot N t x = zdot N t0 x) : Szd m N (2 ^ ex b m) t := by
  obtain ⟨k, u, hku, pu, all⟩ := reach g0 g hk m (Nat.le_refl _)
  obtain ⟨s1, s2⟩ := same_of g0 g hk hz pu all
  obtain ⟨d, hd, hdS, hT, hz⟩ := (pu.szd h).mono (Nat.pow_le_pow_right (by decide) (ex_mono hku))
  refine ⟨d, hd, hdS, fun i j hi hj => ?_, fun j hj => ?_⟩
  · obtain ⟨l, hl, e⟩ := s1 i hi
    rw [e j hj]
    exact hT l j hl hj
  · rw [s2 j hj]
    exact hz j hj
end
theorem szd0 {n m b : Nat} {A : Nat → Nat → Rat} {d : Int} (hd : d ≠ 0) (hb : d.natAbs ≤ 2 ^ b) (h : ∀ i j, i < m → j < n → ∃ e : Int, A i j = (e : Rat) / d ∧ e.natAbs ≤ 2 ^ b) : Szd m (n + m) (2 ^ b) (tab0 n m A) := by
  have hd' := cast_ne hd
  refine ⟨d, hd, hb, fun i j hi hj => ?_, fun j hj => ?_⟩
  · by_cases c : j < n
    · rw [t0c c]
      exact h i j hi c
    · show ∃ e : Int, (if j < n then A i j else if j = n + m then 1 else if j = n + i then 1 else 0) = (e : Rat) / d ∧ _
      rw [if_neg c]
      have one : ∃ e : Int, (1 : Rat) = (e : Rat) / d ∧ e.natAbs ≤ 2 ^ b := ⟨d, by grind, hb⟩
      have nul : ∃ e : Int, (0 : Rat) = (e : Rat) / d ∧ e.natAbs ≤ 2 ^ b := ⟨0, by rw [Rat.intCast_zero]; grind, Nat.zero_le _⟩
      split
      · exact one
      · split
        · exact one
        · exact nul
  · show ∃ e : Int, (if j < n then (-1 : Rat) else 0) = (e : Rat) / d ∧ _
    split
    · exact ⟨-d, by rw [Rat.intCast_neg]; grind, by rw [Int.natAbs_neg]; exact hb⟩
    · exact ⟨0, by rw [Rat.intCast_zero]; grind, Nat.zero_le _⟩
theorem Comes.szd {n m b : Nat} {A : Nat → Nat → Rat} {t : Tab} (a : Comes n m A t) (h : Szd m (n + m) (2 ^ b) (tab0 n m A)) : Szd m (n + m) (2 ^ ex b m) t :=
  szd_of good0 h a.good a.ker fun x hx => by rw [a.dot x hx, zdot0]
/-- what a fraction's integers are, of two integers -/
theorem num_den_le {e d : Int} {q : Rat} (hd : d ≠ 0) (h : q = (e : Rat) / d) : q.num.natAbs ≤ e.natAbs ∧ q.den ≤ d.natAbs := by
  rw [← Rat.divInt_eq_div] at h
  obtain ⟨k, hk, h1, h2⟩ := Rat.divInt_num_den (n' := q.num) (d' := q.den) (z' := q.den_nz) (c := q.reduced) hd (by rw [← h])
  have k1 : 1 ≤ k.natAbs := by omega
  have e1 : e.natAbs = q.num.natAbs * k.natAbs := by rw [h1, Int.natAbs_mul]
  have e2 : d.natAbs = q.den * k.natAbs := by rw [h2, Int.natAbs_mul]; rfl
  rw [e1, e2]
  exact ⟨Nat.le_mul_of_pos_right _ k1, Nat.le_mul_of_pos_right _ k1⟩
end K68
/-! fractions as the text makes them -/
namespace K68
theorem add_di (a b : Rat) : Rat.divInt (a.num * b.den + b.num * a.den) (a.den * b.den) = a + b := by
  rw [Rat.add_def', ← Rat.divInt_ofNat]
  rfl
theorem sub_di (a b : Rat) : Rat.divInt (a.num * b.den - b.num * a.den) (a.den * b.den) = a - b := by
  rw [Rat.sub_def', ← Rat.divInt_ofNat]
  rfl
theorem mul_di (a b : Rat) : Rat.divInt (a.num * b.num) (a.den * b.den) = a * b := by
  rw [Rat.mul_def', ← Rat.divInt_ofNat]
  rfl
theorem num_eq (a : Rat) : ((a.num : Int) : Rat) = a * (a.den : Rat) := by
  have h : a = Rat.divInt a.num a.den := by rw [Rat.num_divInt_den]
  have hd : ((a.den : Nat) : Rat) ≠ 0 := by
    have := a.den_nz
    intro z
    exact this (by exact_mod_cast z)
  rw [Rat.divInt_eq_div] at h
  have h2 : a * ((a.den : Int) : Rat) = (a.num : Rat) := by
    have hd2 : ((a.den : Int) : Rat) ≠ 0 := by
      intro z
      exact a.den_nz (by exact_mod_cast z)
    calc a * ((a.den : Int) : Rat) = ((a.num : Rat) / ((a.den : Int) : Rat)) * ((a.den : Int) : Rat) := by rw [← h]
      _ = (a.num : Rat) := Rat.div_mul_cancel hd2
  rw [← h2]
  rfl
theorem div_di (a b : Rat) (hb : b ≠ 0) : Rat.divInt (a.num * b.den) (a.den * b.num) = a / b := by
  rw [Rat.divInt_eq_div]
  have h1 := num_eq a
  have h2 := num_eq b
  have hd1 : (a.den : Rat) ≠ 0 := fun z => a.den_nz (by exact_mod_cast z)
  have hd2 : (b.den : Rat) ≠ 0 := fun z => b.den_nz (by exact_mod_cast z)
  have e1 : ((a.num * (b.den : Int) : Int) : Rat) = a * a.den * b.den := by
    rw [Rat.intCast_mul, h1]; rfl
  have e2 : (((a.den : Int) * b.num : Int) : Rat) = a.den * (b * b.den) := by
    rw [Rat.intCast_mul, h2]; rfl
  rw [e1, e2]
  grind
theorem lt_di (a b : Rat) : decide (a.num * b.den < b.num * a.den) = decide (a < b) := by
  by_cases h : a < b
  · rw [decide_eq_true h, decide_eq_true ((Rat.lt_iff a b).mp h)]
  · rw [decide_eq_false h, decide_eq_false (fun z => h ((Rat.lt_iff a b).mpr z))]
/-- what part gives -/
theorem part_num {top low : Int} (h : low ≠ 0) : ((if 0 < low then 1 else -1) * top) / ((Int.gcd top low : Nat) : Int) = (Rat.divInt top low).num := by
  rw [Rat.num_divInt, Int.gcd_comm]
  by_cases hp : 0 < low
  · rw [if_pos hp, Int.sign_eq_one_of_pos hp]
  · rw [if_neg hp, Int.sign_eq_neg_one_of_neg (by omega)]
theorem part_den {top low : Int} (h : low ≠ 0) : ((if 0 < low then 1 else -1) * low) / ((Int.gcd top low : Nat) : Int) = ((Rat.divInt top low).den : Nat) := by
  rw [Rat.den_divInt, if_neg h, Int.gcd_comm]
  have e : (if 0 < low then 1 else -1) * low = (low.natAbs : Int) := by
    by_cases hp : 0 < low
    · rw [if_pos hp]; omega
    · rw [if_neg hp]; omega
  rw [e]
  rfl
/-- in bits -/
def Bt (n : Nat) (i : Int) : Prop := i.natAbs < 2 ^ n
theorem Bt.mono {m n : Nat} {i : Int} (h : Bt m i) (l : m ≤ n) : Bt n i := Nat.lt_of_lt_of_le h (Nat.pow_le_pow_right (by decide) l)
theorem Bt.mul {m n : Nat} {i j : Int} (h : Bt m i) (h2 : Bt n j) : Bt (m + n) (i * j) := by
  unfold Bt at *
  rw [Int.natAbs_mul, Nat.pow_add]
  exact Nat.mul_lt_mul'' h h2
theorem Bt.add {m n : Nat} {i j : Int} (h : Bt m i) (h2 : Bt n j) : Bt (m + n + 1) (i + j) := by
  unfold Bt at *
  have a1 : 2 ^ m ≤ 2 ^ (m + n) := Nat.pow_le_pow_right (by decide) (by omega)
  have a2 : 2 ^ n ≤ 2 ^ (m + n) := Nat.pow_le_pow_right (by decide) (by omega)
  rw [Nat.pow_succ]
  have := Int.natAbs_add_le i j
  omega
theorem Bt.add2 {m k : Nat} {i j : Int} (h : Bt m i) (h2 : Bt m j) (l : m + 1 ≤ k) : Bt k (i + j) := by
  unfold Bt at *
  have a1 : 2 ^ (m + 1) ≤ 2 ^ k := Nat.pow_le_pow_right (by decide) l
  rw [Nat.pow_succ] at a1
  have := Int.natAbs_add_le i j
  omega
theorem Bt.neg {m : Nat} {i : Int} (h : Bt m i) : Bt m (-i) := by
  unfold Bt at *
  rw [Int.natAbs_neg]
  exact h
theorem Bt.sub2 {m k : Nat} {i j : Int} (h : Bt m i) (h2 : Bt m j) (l : m + 1 ≤ k) : Bt k (i - j) := by
  rw [Int.sub_eq_add_neg]
  exact Bt.add2 h h2.neg l
theorem Bt.sub {m n : Nat} {i j : Int} (h : Bt m i) (h2 : Bt n j) : Bt (m + n + 1) (i - j) := by
  rw [Int.sub_eq_add_neg]
  exact h.add h2.neg
structure Sm (q : Rat) : Prop where
  n : Bt 3990 q.num
  d : Bt 3990 (q.den : Int)
/-- what a product of two such may be -/
structure Md (q : Rat) : Prop where
  n : Bt 8000 q.num
  d : Bt 8000 (q.den : Int)
theorem Sm.md {q : Rat} (h : Sm q) : Md q := ⟨h.n.mono (by decide), h.d.mono (by decide)⟩
theorem den_le (n d : Int) (h : d ≠ 0) : (Rat.divInt n d).den ≤ d.natAbs := by
  rw [Rat.den_divInt, if_neg h]
  exact Nat.div_le_self _ _
theorem num_le (n d : Int) (h : d ≠ 0) : (Rat.divInt n d).num.natAbs ≤ n.natAbs := by
  have e := part_num (top := n) h
  rw [← e]
  have h1 : ((if 0 < d then 1 else -1) * n).natAbs = n.natAbs := by
    rw [Int.natAbs_mul]
    split <;> simp
  rw [Int.natAbs_ediv_of_dvd]
  · rw [h1]
    exact Nat.div_le_self _ _
  · exact Int.dvd_mul_of_dvd_right (Int.gcd_dvd_left n d)
theorem Sm.mul_md {a b : Rat} (ha : Sm a) (hb : Sm b) : Md (a * b) := by
  have hd : (a.den : Int) * b.den ≠ 0 := by
    have h1 := a.den_nz
    have h2 := b.den_nz
    exact Int.mul_ne_zero (by omega) (by omega)
  have e := mul_di a b
  constructor
  · have h := num_le (a.num * b.num) ((a.den : Int) * b.den) hd
    rw [e] at h
    exact (show Bt 8000 (a * b).num from Nat.lt_of_le_of_lt h ((ha.n.mul hb.n).mono (by decide)))
  · have h := den_le (a.num * b.num) ((a.den : Int) * b.den) hd
    rw [e] at h
    exact (show Bt 8000 ((a * b).den : Int) from Nat.lt_of_le_of_lt h ((ha.d.mul hb.d).mono (by decide)))
theorem Sm.div_md {a b : Rat} (ha : Sm a) (hb : Sm b) (h0 : b ≠ 0) : Md (a / b) := by
  have hd : (a.den : Int) * b.num ≠ 0 := by
    have h1 := a.den_nz
    exact Int.mul_ne_zero (by omega) (fun z => h0 (Rat.num_eq_zero.mp z))
  have e := div_di a b h0
  constructor
  · have h := num_le (a.num * b.den) ((a.den : Int) * b.num) hd
    rw [e] at h
    exact (show Bt 8000 (a / b).num from Nat.lt_of_le_of_lt h ((ha.n.mul hb.d).mono (by decide)))
  · have h := den_le (a.num * b.den) ((a.den : Int) * b.num) hd
    rw [e] at h
    exact (show Bt 8000 ((a / b).den : Int) from Nat.lt_of_le_of_lt h ((ha.d.mul hb.n).mono (by decide)))
/-- both parts in n bits -/
structure Bq (k : Nat) (q : Rat) : Prop where
  n : Bt k q.num
  d : Bt k (q.den : Int)
theorem Bq.mono {m n : Nat} {q : Rat} (h : Bq m q) (l : m ≤ n) : Bq n q := ⟨h.n.mono l, h.d.mono l⟩
theorem Bq.of {n d : Int} {q : Rat} {k : Nat} (e : Rat.divInt n d = q) (h : d ≠ 0) (hn : Bt k n) (hd : Bt k d) : Bq k q := by
  subst e
  exact ⟨Nat.lt_of_le_of_lt (num_le n d h) hn, Nat.lt_of_le_of_lt (den_le n d h) hd⟩
theorem dd_ne (a b : Rat) : (a.den : Int) * b.den ≠ 0 := by
  have h1 := a.den_nz
  have h2 := b.den_nz
  exact Int.mul_ne_zero (by omega) (by omega)
theorem Bq.add {m n : Nat} {a b : Rat} (ha : Bq m a) (hb : Bq n b) : Bq (m + n + 1) (a + b) := Bq.of (add_di a b) (dd_ne a b) (Bt.add2 (m := m + n) (ha.n.mul hb.d) ((hb.n.mul ha.d).mono (by omega)) (by omega)) ((ha.d.mul hb.d).mono (by omega))
theorem Bq.sub {m n : Nat} {a b : Rat} (ha : Bq m a) (hb : Bq n b) : Bq (m + n + 1) (a - b) := Bq.of (sub_di a b) (dd_ne a b) (Bt.sub2 (m := m + n) (ha.n.mul hb.d) ((hb.n.mul ha.d).mono (by omega)) (by omega)) ((ha.d.mul hb.d).mono (by omega))
theorem Bq.mul {m n : Nat} {a b : Rat} (ha : Bq m a) (hb : Bq n b) : Bq (m + n) (a * b) := Bq.of (mul_di a b) (dd_ne a b) (ha.n.mul hb.n) (ha.d.mul hb.d)
theorem inv_di (a : Rat) (h : a ≠ 0) : Rat.divInt a.den a.num = 1 / a := by
  have := div_di 1 a h
  have e1 : ((1 : Rat).num) = 1 := rfl
  have e2 : ((1 : Rat).den) = 1 := rfl
  rw [e1, e2] at this
  rw [← this]
  simp
theorem Bq.inv {m : Nat} {a : Rat} (ha : Bq m a) (h : a ≠ 0) : Bq m (1 / a) := Bq.of (inv_di a h) (fun z => h (Rat.num_eq_zero.mp z)) ha.d ha.n
end K68
/-! fractions over one number -/
namespace K68
/-- q over W, in b bits -/
def Ov (W : Int) (b : Nat) (q : Rat) : Prop := ∃ e : Int, q = (e : Rat) / W ∧ e.natAbs ≤ 2 ^ b
theorem two_le {a b : Nat} (l : a ≤ b) : 2 ^ a ≤ 2 ^ b := Nat.pow_le_pow_right (by decide) l
theorem Ov.mono {W : Int} {b c : Nat} {q : Rat} (h : Ov W b q) (l : b ≤ c) : Ov W c q := by
  obtain ⟨e, h1, h2⟩ := h
  exact ⟨e, h1, Nat.le_trans h2 (two_le l)⟩
theorem Ov.mul {W V : Int} {b c : Nat} {q r : Rat} (h : Ov W b q) (h2 : Ov V c r) : Ov (W * V) (b + c) (q * r) := by
  obtain ⟨e, e1, e2⟩ := h
  obtain ⟨f, f1, f2⟩ := h2
  refine ⟨e * f, ?_, ?_⟩
  · rw [e1, f1, Rat.intCast_mul, Rat.intCast_mul, Rat.div_def, Rat.div_def, Rat.div_def, Rat.inv_mul_rev]
    grind
  · rw [Int.natAbs_mul, Nat.pow_add]
    exact Nat.mul_le_mul e2 f2
theorem Ov.one {V : Int} {c : Nat} (V0 : V ≠ 0) (hV : V.natAbs ≤ 2 ^ c) : Ov V c 1 := by
  have h := cast_ne V0
  exact ⟨V, by grind, hV⟩
theorem Ov.lift {W V : Int} {b c : Nat} {q : Rat} (h : Ov W b q) (V0 : V ≠ 0) (hV : V.natAbs ≤ 2 ^ c) : Ov (W * V) (b + c) q := by
  have := h.mul (Ov.one V0 hV)
  rwa [Rat.mul_one] at this
theorem Ov.liftl {W V : Int} {b c : Nat} {q : Rat} (h : Ov W b q) (V0 : V ≠ 0) (hV : V.natAbs ≤ 2 ^ c) : Ov (V * W) (b + c) q := by
  rw [Int.mul_comm]
  exact h.lift V0 hV
theorem Ov.zero {W : Int} {b : Nat} : Ov W b 0 := ⟨0, by rw [Rat.div_def]; simp, by simp⟩
theorem Ov.bq {W : Int} {b k : Nat} {q : Rat} (W0 : W ≠ 0) (hW : W.natAbs ≤ 2 ^ b) (h : Ov W b q) (l : b < k) : Bq k q := by
  obtain ⟨e, e1, e2⟩ := h
  obtain ⟨h1, h2⟩ := num_den_le W0 e1
  have h3 : 2 ^ b < 2 ^ k := Nat.pow_lt_pow_right (by decide) l
  refine ⟨?_, ?_⟩
  · show q.num.natAbs < 2 ^ k
    omega
  · show ((q.den : Int)).natAbs < 2 ^ k
    rw [Int.natAbs_natCast]
    omega
theorem ov_sum {W : Int} {b : Nat} : ∀ {l : List Rat}, (∀ q ∈ l, Ov W b q) → ∃ e : Int, l.sum = (e : Rat) / W ∧ e.natAbs ≤ l.length * 2 ^ b
  | [], _ => ⟨0, by rw [Rat.div_def]; simp, by simp⟩
  | q :: l, h => by
    obtain ⟨e, e1, e2⟩ := ov_sum (l := l) fun r hr => h r (List.mem_cons_of_mem _ hr)
    obtain ⟨f, f1, f2⟩ := h q (List.mem_cons_self ..)
    refine ⟨f + e, ?_, ?_⟩
    · rw [List.sum_cons, e1, f1, Rat.intCast_add, Rat.div_def, Rat.div_def, Rat.div_def, Rat.add_mul]
    · rw [List.length_cons, Nat.add_mul, Nat.one_mul]
      have := Int.natAbs_add_le f e
      omega
theorem Ov.sum {W : Int} {b : Nat} {l : List Rat} (h : ∀ q ∈ l, Ov W b q) (l8 : l.length ≤ 8) : Ov W (b + 3) l.sum := by
  obtain ⟨e, e1, e2⟩ := ov_sum h
  refine ⟨e, e1, Nat.le_trans e2 ?_⟩
  rw [Nat.pow_add, Nat.mul_comm]
  exact Nat.mul_le_mul_left _ l8
theorem Bq.ov {k : Nat} {q : Rat} (h : Bq k q) : Ov (q.den : Int) k q := by
  refine ⟨q.num, ?_, Nat.le_of_lt h.n⟩
  have e := num_eq q
  have hd : ((q.den : Int) : Rat) ≠ 0 := cast_ne (by have := q.den_nz; omega)
  have e2 : ((q.den : Int) : Rat) = (q.den : Rat) := rfl
  rw [e, e2]
  rw [e2] at hd
  grind
theorem Bq.den {k : Nat} {q : Rat} (h : Bq k q) : (q.den : Int) ≠ 0 ∧ (q.den : Int).natAbs ≤ 2 ^ k := ⟨by have := q.den_nz; omega, Nat.le_of_lt h.d⟩
theorem Ov.of_bits {W V : Int} {b c : Nat} (h : W.natAbs ≤ 2 ^ b) (h2 : V.natAbs ≤ 2 ^ c) : (W * V).natAbs ≤ 2 ^ (b + c) := by
  rw [Int.natAbs_mul, Nat.pow_add]
  exact Nat.mul_le_mul h h2
/-- both parts over one number -/
theorem parts_ov {g h : Rat} {k : Nat} (g0 : 0 < g) (h0 : 0 < h) (bg : Bq k g) (bh : Bq k h) : ∃ Z : Int, Z ≠ 0 ∧ Z.natAbs ≤ 2 ^ (4 * k + 1) ∧ Ov Z (4 * k + 1) (1 / g * (1 / (1 / g + 1 / h))) ∧ Ov Z (4 * k + 1) (1 / h * (1 / (1 / g + 1 / h))) := by
  have gn : g ≠ 0 := by grind
  have hn : h ≠ 0 := by grind
  have s0 : g + h ≠ 0 := by grind
  have bs : Bq (2 * k + 1) (g + h) := (bg.add bh).mono (by omega)
  have bi : Bq (2 * k + 1) (1 / (g + h)) := bs.inv s0
  have e0 : 1 / g * (1 / (1 / g + 1 / h)) = h * (1 / (g + h)) := by
    have : 1 / g + 1 / h = (g + h) / (g * h) := by grind
    grind
  have e1 : 1 / h * (1 / (1 / g + 1 / h)) = g * (1 / (g + h)) := by
    have : 1 / g + 1 / h = (g + h) / (g * h) := by grind
    grind
  obtain ⟨dg, dg2⟩ := bg.den
  obtain ⟨dh, dh2⟩ := bh.den
  obtain ⟨di, di2⟩ := bi.den
  refine ⟨(g.den : Int) * (h.den : Int) * ((1 / (g + h)).den : Int), Int.mul_ne_zero (Int.mul_ne_zero dg dh) di, ?_, ?_, ?_⟩
  · have := Ov.of_bits (Ov.of_bits dg2 dh2) di2
    rwa [show k + k + (2 * k + 1) = 4 * k + 1 by omega] at this
  · rw [e0]
    have := (bh.ov.liftl dg dg2).mul bi.ov
    rwa [show k + k + (2 * k + 1) = 4 * k + 1 by omega] at this
  · rw [e1]
    have := (bg.ov.lift dh dh2).mul bi.ov
    rwa [show k + k + (2 * k + 1) = 4 * k + 1 by omega] at this
end K68
set_option linter.all false
set_option maxRecDepth 100000
set_option maxHeartbeats 4000000
/-! what evaluates to what: data, over a heap of which a part stays as it is -/
namespace KW
open PySem PySem.Spec PyProof.Rows L2

/-! ### heaps: H whole, G the part that stays -/
def Ex (H H' : Hp) : Prop := ∀ a o, H a = some o → H' a = some o
theorem Ex.refl (H : Hp) : Ex H H := fun _ _ h => h
theorem Ex.trans {H H1 H2 : Hp} (a : Ex H H1) (b : Ex H1 H2) : Ex H H2 := fun x o h => b x o (a x o h)
theorem Ex.new {H : Hp} {p : Addr} {o : HO} (h : H p = none) : Ex H (upd H p o) := fun a u e => by
  rw [upd_ne (ne_of_none e h)]
  exact e
theorem Ex.back {H H' : Hp} {p : Addr} (e : Ex H H') (h : H' p = none) : H p = none := by
  cases h1 : H p with
  | none => rfl
  | some o =>
    rw [e p o h1] at h
    cases h
structure Vx (H G H2 G2 : Hp) : Prop where
  hh : Ex H H2
  gg : Ex G G2
  gh : Ex G2 H2
  nw : ∀ a o, H a = some o → G a = none → G2 a = none
theorem Vx.refl {H G : Hp} (e : Ex G H) : Vx H G H G := ⟨Ex.refl H, Ex.refl G, e, fun _ _ _ h => h⟩
theorem Vx.trans {H G H1 G1 H2 G2 : Hp} (a : Vx H G H1 G1) (b : Vx H1 G1 H2 G2) : Vx H G H2 G2 :=
  ⟨a.hh.trans b.hh, a.gg.trans b.gg, b.gh, fun c o h n => b.nw c o (a.hh c o h) (a.nw c o h n)⟩
theorem Vx.new {H G : Hp} {p : Addr} {o : HO} (e : Ex G H) (h : H p = none) : Vx H G (upd H p o) (upd G p o) where
  hh := Ex.new h
  gg := Ex.new (e.back h)
  gh := fun a u q => by
    by_cases z : a = p
    · rw [z, upd_same] at q ⊢
      exact q
    · rw [upd_ne z] at q ⊢
      exact e a u q
  nw := fun a u q n => by rw [upd_ne (ne_of_none q h)]; exact n
/-- a new object that may change -/
theorem Vx.mut {H G : Hp} {p : Addr} {o : HO} (e : Ex G H) (h : H p = none) : Vx H G (upd H p o) G where
  hh := Ex.new h
  gg := Ex.refl G
  gh := fun a u q => by rw [upd_ne (ne_of_none q (e.back h))]; exact e a u q
  nw := fun _ _ _ n => n

/-! ### what a value stands for -/
mutual
inductive Rp (K : PySem.W.Frag) (G : Hp) : V → PyData → Prop
  | non : Rp K G .non .none
  | bl (b : Bool) : Rp K G (.bl b) (.bool b)
  | int (i : Int) : Rp K G (.int i) (.int i)
  | str (x : Str) : Rp K G (.str x) (.str x)
  | lst {a : Addr} {xs : List V} {ds : List PyData} : G a = some (.lst xs) → RpAll K G xs ds → Rp K G (.ref a) (.list ds)
  | tup {a : Addr} {xs : List V} {ds : List PyData} : SqT K G a xs → RpAll K G xs ds → Rp K G (.ref a) (.tuple ds)
inductive RpAll (K : PySem.W.Frag) (G : Hp) : List V → List PyData → Prop
  | nil : RpAll K G [] []
  | cons {v : V} {vs : List V} {d : PyData} {ds : List PyData} : Rp K G v d → RpAll K G vs ds → RpAll K G (v :: vs) (d :: ds)
end
section
variable {K : PySem.W.Frag} {G G' : Hp}
theorem ex_t (e : Ex G G') {a : Addr} {xs : List V} (h : SqT K G a xs) : SqT K G' a xs := by
  rcases h with (h | ⟨o, h⟩) | h
  · exact .inl (.inl (e _ _ h))
  · exact .inl (.inr ⟨o, e _ _ h⟩)
  · exact .inr h
theorem ex_l (e : Ex G G') {a : Addr} {xs : List V} (h : SqL K G a xs) : SqL K G' a xs := by
  rcases h with (h | ⟨o, h⟩) | h
  · exact .inl (.inl (e _ _ h))
  · exact .inl (.inr ⟨o, e _ _ h⟩)
  · exact .inr h
mutual
theorem Rp.mono (e : Ex G G') : ∀ {v : V} {d : PyData}, Rp K G v d → Rp K G' v d
  | _, _, .non => .non
  | _, _, .bl b => .bl b
  | _, _, .int i => .int i
  | _, _, .str x => .str x
  | _, _, .lst h r => .lst (e _ _ h) (RpAll.mono e r)
  | _, _, .tup h r => .tup (ex_t e h) (RpAll.mono e r)
theorem RpAll.mono (e : Ex G G') : ∀ {vs : List V} {ds : List PyData}, RpAll K G vs ds → RpAll K G' vs ds
  | _, _, .nil => .nil
  | _, _, .cons h r => .cons (Rp.mono e h) (RpAll.mono e r)
end
mutual
theorem Rp.dp : ∀ {v : V} {d : PyData}, Rp K G v d → Dp K G v d
  | _, _, .non => .non
  | _, _, .bl b => .bl b
  | _, _, .int i => .int i
  | _, _, .str x => .str x
  | _, _, .lst h r => .lst (SqL.of h) (RpAll.dp r)
  | _, _, .tup h r => .tup h (RpAll.dp r)
theorem RpAll.dp : ∀ {vs : List V} {ds : List PyData}, RpAll K G vs ds → DpAll K G vs ds
  | _, _, .nil => .nil
  | _, _, .cons h r => .cons (Rp.dp h) (RpAll.dp r)
end
theorem RpAll.length : ∀ {vs : List V} {ds : List PyData}, RpAll K G vs ds → vs.length = ds.length
  | _, _, .nil => rfl
  | _, _, .cons _ r => by rw [List.length_cons, List.length_cons, RpAll.length r]
theorem RpAll.get : ∀ {vs : List V} {ds : List PyData}, RpAll K G vs ds → ∀ {i : Nat} {d : PyData}, ds[i]? = some d → ∃ v, vs[i]? = some v ∧ Rp K G v d
  | _, _, .nil, i, d, h => by simp at h
  | _, _, .cons (v := v) h r, 0, d, e => by
    have : _ = d := Option.some.inj e
    subst this
    exact ⟨v, rfl, h⟩
  | _, _, .cons h r, i + 1, d, e => RpAll.get r (i := i) e
theorem RpAll.get' : ∀ {vs : List V} {ds : List PyData}, RpAll K G vs ds → ∀ {i : Nat} {v : V}, vs[i]? = some v → ∃ d, ds[i]? = some d ∧ Rp K G v d
  | _, _, .nil, i, d, h => by simp at h
  | _, _, .cons (d := d) h r, 0, v, e => by
    have : _ = v := Option.some.inj e
    subst this
    exact ⟨d, rfl, h⟩
  | _, _, .cons h r, i + 1, d, e => RpAll.get' r (i := i) e
theorem RpAll.append : ∀ {vs ws : List V} {ds es : List PyData}, RpAll K G vs ds → RpAll K G ws es → RpAll K G (vs ++ ws) (ds ++ es)
  | _, _, _, _, .nil, q => q
  | _, _, _, _, .cons h r, q => .cons h (RpAll.append r q)
theorem RpAll.take : ∀ {vs : List V} {ds : List PyData} (n : Nat), RpAll K G vs ds → RpAll K G (vs.take n) (ds.take n)
  | _, _, 0, _ => .nil
  | _, _, _ + 1, .nil => .nil
  | _, _, n + 1, .cons h r => .cons h (RpAll.take n r)
theorem RpAll.drop : ∀ {vs : List V} {ds : List PyData} (n : Nat), RpAll K G vs ds → RpAll K G (vs.drop n) (ds.drop n)
  | _, _, 0, r => r
  | _, _, _ + 1, .nil => .nil
  | _, _, n + 1, .cons _ r => RpAll.drop n r
theorem RpAll.set {v : V} {d : PyData} (q : Rp K G v d) : ∀ {vs : List V} {ds : List PyData} (n : Nat), RpAll K G vs ds → RpAll K G (vs.set n v) (ds.set n d)
  | _, _, _, .nil => .nil
  | _, _, 0, .cons _ r => .cons q r
  | _, _, n + 1, .cons h r => .cons h (RpAll.set q n r)
theorem RpAll.rev {vs : List V} {ds : List PyData} (h : RpAll K G vs ds) : RpAll K G vs.reverse ds.reverse := by
  have go : ∀ {vs : List V} {ds : List PyData} {us : List V} {es : List PyData}, RpAll K G vs ds → RpAll K G us es → RpAll K G (vs.reverse ++ us) (ds.reverse ++ es) := by
    intro vs
    induction vs with
    | nil => intro ds us es h q; cases h; exact q
    | cons v vs ih =>
      intro ds us es h q
      cases h with
      | cons h r =>
        rw [List.reverse_cons, List.reverse_cons, List.append_assoc, List.append_assoc]
        exact ih r (.cons h q)
  have := go h .nil
  rwa [List.append_nil, List.append_nil] at this
theorem RpAll.ints : ∀ {vs : List V} {ns : List Int}, RpAll K G vs (ns.map .int) → vs = ns.map V.int
  | _, [], h => by cases h; rfl
  | _, n :: ns, h => by
    cases h with
    | cons h r =>
      cases h
      rw [RpAll.ints r]
      rfl
theorem RpAll.ofInts : ∀ ns : List Int, RpAll K G (ns.map V.int) (ns.map .int)
  | [] => .nil
  | n :: ns => .cons (.int n) (RpAll.ofInts ns)
theorem RpAll.bools : ∀ {vs : List V} {bs : List Bool}, RpAll K G vs (bs.map .bool) → vs = bs.map V.bl
  | _, [], h => by cases h; rfl
  | _, n :: ns, h => by
    cases h with
    | cons h r =>
      cases h
      rw [RpAll.bools r]
      rfl
end

/-! ### cells of a frame: data, or a value itself -/
inductive Cl where
  | d (x : PyData)
  | v (x : V)
  | i (C : Addr) (fs : List (Str × PyData))
  | m (kvs : List (Int × PyData))
  | f (ds : List PyData)
inductive KvR (K : PySem.W.Frag) (G : Hp) : List (Key × V) → List (Int × PyData) → Prop
  | nil : KvR K G [] []
  | cons {k : Int} {v : V} {d : PyData} {vs : List (Key × V)} {ds : List (Int × PyData)} : Rp K G v d → KvR K G vs ds → KvR K G ((Sum.inl k, v) :: vs) ((k, d) :: ds)
theorem KvR.mono {K : PySem.W.Frag} {G G' : Hp} (e : Ex G G') : ∀ {vs : List (Key × V)} {ds : List (Int × PyData)}, KvR K G vs ds → KvR K G' vs ds
  | _, _, .nil => .nil
  | _, _, .cons h r => .cons (h.mono e) (KvR.mono e r)
def cOk (K : PySem.W.Frag) (G : Hp) : Cl → V → Prop
  | .d x, u => Rp K G u x
  | .v x, u => u = x
  | .i C fs, u => ∃ (a dx : Addr) (vs : List (Str × V)), u = .ref a ∧ G a = some (.ins C dx vs) ∧ (∀ (f : Str) (d : PyData), fs.lookup f = some d → ∃ v, vs.lookup f = some v ∧ Rp K G v d) ∧ ∀ f : Str, fs.lookup f = none → vs.lookup f = none
  | .m kvs, u => ∃ (a : Addr) (vs : List (Key × V)), u = .ref a ∧ G a = some (.dK vs) ∧ KvR K G vs kvs
  | .f ds, u => ∃ (a : Addr) (xs : List V), u = .ref a ∧ SqL K G a xs ∧ RpAll K G xs ds
theorem cOk.mono {K : PySem.W.Frag} {G G' : Hp} (e : Ex G G') : ∀ {c : Cl} {v : V}, cOk K G c v → cOk K G' c v
  | .d _, _, h => Rp.mono e h
  | .v _, _, h => h
  | .i _ _, _, ⟨a, dx, vs, h1, h2, h3, h4⟩ => ⟨a, dx, vs, h1, e _ _ h2, fun f d l => let ⟨v, a, b⟩ := h3 f d l; ⟨v, a, b.mono e⟩, h4⟩
  | .m _, _, ⟨a, vs, h1, h2, h3⟩ => ⟨a, vs, h1, e _ _ h2, h3.mono e⟩
  | .f _, _, ⟨a, xs, h1, h2, h3⟩ => ⟨a, xs, h1, ex_l e h2, h3.mono e⟩
abbrev DE := List (Option Cl)
structure En (K : PySem.W.Frag) (G : Hp) (σ : L2.St) (δ : DE) : Prop where
  len : σ.length = δ.length
  get : ∀ (i : Nat) (c : Cl), δ[i]? = some (some c) → ∃ v, σ[i]? = some (some v) ∧ cOk K G c v
section
variable {K : PySem.W.Frag} {G G' : Hp} {σ : L2.St} {δ : DE}
theorem En.mono (e : Ex G G') (h : En K G σ δ) : En K G' σ δ := ⟨h.len, fun i c q => let ⟨v, a, b⟩ := h.get i c q; ⟨v, a, b.mono e⟩⟩
theorem En.set (h : En K G σ δ) {v : V} {c : Cl} (i : Nat) (q : cOk K G c v) : En K G (σ.set i (some v)) (δ.set i (some c)) := by
  refine ⟨by rw [List.length_set, List.length_set, h.len], fun j c' e => ?_⟩
  by_cases z : i = j
  · subst z
    by_cases l : i < δ.length
    · rw [List.getElem?_set_self l] at e
      cases e
      exact ⟨v, List.getElem?_set_self (by rw [h.len]; exact l), q⟩
    · rw [List.getElem?_eq_none (by rw [List.length_set]; omega)] at e
      cases e
  · rw [List.getElem?_set_ne z] at e
    obtain ⟨w, a, b⟩ := h.get j c' e
    exact ⟨w, by rw [List.getElem?_set_ne z]; exact a, b⟩
/-- less is known -/
theorem En.weak (h : En K G σ δ) {δ' : DE} (hl : δ'.length = δ.length) (w : ∀ (i : Nat) (c : Cl), δ'[i]? = some (some c) → δ[i]? = some (some c)) : En K G σ δ' := ⟨by rw [hl]; exact h.len, fun i c q => h.get i c (w i c q)⟩
theorem En.forget (h : En K G σ δ) (i : Nat) (o : Option V) : En K G (σ.set i o) (δ.set i none) := by
  refine ⟨by rw [List.length_set, List.length_set, h.len], fun j c' e => ?_⟩
  by_cases z : i = j
  · subst z
    by_cases l : i < δ.length
    · rw [List.getElem?_set_self l] at e
      cases e
    · rw [List.getElem?_eq_none (by rw [List.length_set]; omega)] at e
      cases e
  · rw [List.getElem?_set_ne z] at e
    obtain ⟨w, a, b⟩ := h.get j c' e
    exact ⟨w, by rw [List.getElem?_set_ne z]; exact a, b⟩
end

/-! ### the widest readings -/
section
variable (X : Cx)
def tW (e : Expr) : TE := fun σ H Q => ∀ (pins : List (Addr × Obj)) (s : Shared), Inv X pins σ H s → wpAny (model X.prog X.w) X.A (eval e X.env) (EP X pins σ Q) X.xe s
def tWT (e : Expr) : TT := fun σ H Q => ∀ (pins : List (Addr × Obj)) (s : Shared), Inv X pins σ H s → wpAny (model X.prog X.w) X.A (isTrue e X.env (eval e X.env)) (TP X pins σ Q) X.xe s
def tWA (es : List Expr) : TA := fun σ H Q => ∀ (pos : Pos) (pins : List (Addr × Obj)) (s : Shared), Inv X pins σ H s → wpAny (model X.prog X.w) X.A (spliced (backTo pos (starEach es X.env))) (AP X pins σ Q) X.xe s
def tWS (st : Stmt) : TS := fun D σ H => ∀ (pins : List (Addr × Obj)) (s : Shared), Inv X pins σ H s → wpAny (model X.prog X.w) X.A (exec st X.env) (SP X pins D) X.xe s
def tWSs (st : List Stmt) : TS := fun D σ H => ∀ (pins : List (Addr × Obj)) (s : Shared), Inv X pins σ H s → wpAny (model X.prog X.w) X.A (execs st X.env) (SP X pins D) X.xe s
/-- a test whatever its whole is -/
def tWW (e : Expr) : TT := fun σ H Q => ∀ (whole : Sem Value) (pins : List (Addr × Obj)) (s : Shared), Inv X pins σ H s → wpAny (model X.prog X.w) X.A (isTrue e X.env whole) (TP X pins σ Q) X.xe s
end
section
variable {X : Cx} {e : Expr} {es : List Expr} {st : Stmt} {sts : List Stmt} {σ : L2.St} {H : Hp}
theorem peW : PE X e (tW X e) := ⟨fun pins s _ _ _ I h => h pins s I⟩
theorem ptW : PT X e (tWT X e) := ⟨fun pins s _ _ _ I h => h pins s I⟩
theorem paW : PA X es (tWA X es) := ⟨fun pos pins s _ _ _ I h => h pos pins s I⟩
theorem psW : PS X st (tWS X st) := ⟨fun pins s _ _ _ I h => h pins s I⟩
theorem pssW : PSs X sts (tWSs X sts) := ⟨fun pins s _ _ _ I h => h pins s I⟩
theorem pwW : PW X e (tWW X e) := ⟨fun wh pins s _ _ _ I h => h wh pins s I⟩
theorem leE {t : TE} (h : PE X e t) {Q : VK} (q : t σ H Q) : tW X e σ H Q := fun pins s I => h.run pins s σ H Q I q
theorem leT {t : TT} (h : PT X e t) {Q : Bool → Hp → Prop} (q : t σ H Q) : tWT X e σ H Q := fun pins s I => h.run pins s σ H Q I q
theorem leW {t : TT} (h : PW X e t) {Q : Bool → Hp → Prop} (q : t σ H Q) : tWW X e σ H Q := fun wh pins s I => h.run wh pins s σ H Q I q
theorem leA {t : TA} (h : PA X es t) {Q : List V → Hp → Prop} (q : t σ H Q) : tWA X es σ H Q := fun pos pins s I => h.run pos pins s σ H Q I q
theorem leS {t : TS} (h : PS X st t) {D : Ends} (q : t D σ H) : tWS X st D σ H := fun pins s I => h.run pins s σ H D I q
theorem leSs {t : TS} (h : PSs X sts t) {D : Ends} (q : t D σ H) : tWSs X sts D σ H := fun pins s I => h.run pins s σ H D I q
end

/-! ### evaluations -/
section
variable (X : Cx)
/-- e gives c -/
def Ey (e : Expr) (δ : DE) (c : Cl) : Prop := ∀ (σ : L2.St) (H G : Hp) (Q : VK), Ex G H → En X.K G σ δ → (∀ v H2 G2, Vx H G H2 G2 → cOk X.K G2 c v → Q v H2) → tW X e σ H Q
def Ty (e : Expr) (δ : DE) (b : Bool) : Prop := ∀ (σ : L2.St) (H G : Hp) (Q : Bool → Hp → Prop), Ex G H → En X.K G σ δ → (∀ H2 G2, Vx H G H2 G2 → Q b H2) → tWT X e σ H Q
def Wy (e : Expr) (δ : DE) (b : Bool) : Prop := ∀ (σ : L2.St) (H G : Hp) (Q : Bool → Hp → Prop), Ex G H → En X.K G σ δ → (∀ H2 G2, Vx H G H2 G2 → Q b H2) → tWW X e σ H Q
inductive CAll (K : PySem.W.Frag) (G : Hp) : List Cl → List V → Prop
  | nil : CAll K G [] []
  | cons {c : Cl} {cs : List Cl} {v : V} {vs : List V} : cOk K G c v → CAll K G cs vs → CAll K G (c :: cs) (v :: vs)
def Ay (es : List Expr) (δ : DE) (cs : List Cl) : Prop := ∀ (σ : L2.St) (H G : Hp) (Q : List V → Hp → Prop), Ex G H → En X.K G σ δ → (∀ vs H2 G2, Vx H G H2 G2 → CAll X.K G2 cs vs → Q vs H2) → tWA X es σ H Q
/-- an operation of two values -/
def Oy (f : Value → Value → Sem Value) (a b c : Cl) : Prop := ∃ r : R2, OpR X f r ∧ ∀ (x y : V) (H G : Hp) (Q : VK), Ex G H → cOk X.K G a x → cOk X.K G b y → (∀ v H2 G2, Vx H G H2 G2 → cOk X.K G2 c v → Q v H2) → r x y H Q
/-- a subscript -/
def Xy (a b c : Cl) : Prop := ∃ r : R2, IxR X r ∧ ∀ (x y : V) (H G : Hp) (Q : VK), Ex G H → cOk X.K G a x → cOk X.K G b y → (∀ v H2 G2, Vx H G H2 G2 → cOk X.K G2 c v → Q v H2) → r x y H Q
/-- a call of a value that is known -/
def Cy (f : Value) (cs : List Cl) (c : Cl) : Prop := ∃ r : List V → Hp → VK → Prop, CallR X f r ∧ ∀ (vs : List V) (H G : Hp) (Q : VK), Ex G H → CAll X.K G cs vs → (∀ v H2 G2, Vx H G H2 G2 → cOk X.K G2 c v → Q v H2) → r vs H Q
end
theorem CAll.mono {K : PySem.W.Frag} {G G' : Hp} (e : Ex G G') : ∀ {cs : List Cl} {vs : List V}, CAll K G cs vs → CAll K G' cs vs
  | _, _, .nil => .nil
  | _, _, .cons h r => .cons (h.mono e) (CAll.mono e r)
theorem CAll.data {K : PySem.W.Frag} {G : Hp} : ∀ {ds : List PyData} {vs : List V}, CAll K G (ds.map .d) vs → RpAll K G vs ds
  | [], _, h => by cases h; exact .nil
  | d :: ds, _, h => by
    cases h with
    | cons h r => exact .cons h (CAll.data r)
section
variable {X : Cx} {δ : DE} {a b e : Expr} {es : List Expr} {c c1 c2 : Cl} {pos : Pos}
theorem y_var {i : Nat} {x : Str} (hN : X.N[i]? = some x) (hv : Vis X.env.scope x) (h : δ[i]? = some (some c)) (hd : (x == ("__debug__" : Str)) = false := by decide) (hcd : (x == ("__classdict__" : Str)) = false := by decide) : Ey X (.Name x pos) δ c := fun σ H G Q eg en q => by
  obtain ⟨v, e1, e2⟩ := en.get i c h
  exact leE (pe_var hN hv hd hcd) ⟨v, e1, q v H G (Vx.refl eg) e2⟩
theorem y_int {i : Int} {j : Nat} : Ey X (.Constant (.int i) j pos) δ (.d (.int i)) := fun σ H G Q eg en q => leE pe_int (q _ H G (Vx.refl eg) (Rp.int i))
theorem y_bl {k : Bool} {j : Nat} : Ey X (.Constant (.bool k) j pos) δ (.d (.bool k)) := fun σ H G Q eg en q => leE pe_bl (q _ H G (Vx.refl eg) (Rp.bl k))
theorem y_non {j : Nat} : Ey X (.Constant .none j pos) δ (.d .none) := fun σ H G Q eg en q => leE pe_non (q _ H G (Vx.refl eg) Rp.non)
/-- a module's constant -/
theorem y_glob {x : Str} {u : Value} {v : V} (hg : Gl X x) (hm : X.mg x = some u) (r : RelV v u) (hc : ∀ G, cOk X.K G c v) (hd : (x == ("__debug__" : Str)) = false := by decide) : Ey X (.Name x pos) δ c := fun σ H G Q eg en q => leE (pe_glob hg hm r hd) (q _ H G (Vx.refl eg) (hc G))
theorem y_op {op : Operator} (ho : Oy X (binaryOp op) c1 c2 c) (ha : Ey X a δ c1) (hb : Ey X b δ c2) : Ey X (.BinOp a op b pos) δ c := fun σ H G Q eg en q => by
  obtain ⟨r, hr, h⟩ := ho
  refine leE (pe_op hr peW peW) (ha σ H G _ eg en fun x H1 G1 v1 o1 => hb σ H1 G1 _ v1.gh (en.mono v1.gg) fun y H2 G2 v2 o2 => ?_)
  exact h x y H2 G2 Q v2.gh (o1.mono v2.gg) o2 fun v H3 G3 v3 o3 => q v H3 G3 ((v1.trans v2).trans v3) o3
theorem y_cmp {op : CmpOp} (ho : Oy X (compareOp op) c1 c2 c) (ha : Ey X a δ c1) (hb : Ey X b δ c2) (hm : behindInMarks op b = false) : Ey X (.Compare a [op] [b] pos) δ c := fun σ H G Q eg en q => by
  obtain ⟨r, hr, h⟩ := ho
  refine leE (pe_cmpR hr peW peW hm) (ha σ H G _ eg en fun x H1 G1 v1 o1 => hb σ H1 G1 _ v1.gh (en.mono v1.gg) fun y H2 G2 v2 o2 => ?_)
  exact h x y H2 G2 Q v2.gh (o1.mono v2.gg) o2 fun v H3 G3 v3 o3 => q v H3 G3 ((v1.trans v2).trans v3) o3
theorem t_cmp {op : CmpOp} {k : Bool} (ho : Oy X (compareOp op) c1 c2 (.d (.bool k))) (ha : Ey X a δ c1) (hb : Ey X b δ c2) (hm : behindInMarks op b = false) : Ty X (.Compare a [op] [b] pos) δ k := fun σ H G Q eg en q => by
  obtain ⟨r, hr, h⟩ := ho
  refine leT (pt_cmpR hr peW peW hm) (ha σ H G _ eg en fun x H1 G1 v1 o1 => hb σ H1 G1 _ v1.gh (en.mono v1.gg) fun y H2 G2 v2 o2 => ?_)
  refine h x y H2 G2 _ v2.gh (o1.mono v2.gg) o2 fun v H3 G3 v3 o3 => ?_
  have o3' : Rp X.K G3 v (.bool k) := o3
  cases o3'
  exact ⟨k, rfl, q H3 G3 ((v1.trans v2).trans v3)⟩
theorem t_val {k : Bool} (h : Ey X e δ (.d (.bool k))) (he : ∀ whole, isTrue e X.env whole = (do let v ← whole; standAt e.pos; holding [v] (truthy v)) := by intro _; rfl) : Ty X e δ k := fun σ H G Q eg en q => by
  refine leT (pt_val peW he) (h σ H G _ eg en fun v H1 G1 v1 o1 => ?_)
  have o1' : Rp X.K G1 v (.bool k) := o1
  cases o1'
  exact ⟨k, rfl, q H1 G1 v1⟩
theorem t_not {k : Bool} (h : Ty X e δ k) : Ty X (.UnaryOp .Not e pos) δ (!k) := fun σ H G Q eg en q => leT (pt_not ptW) (h σ H G _ eg en fun H1 G1 v1 => q H1 G1 v1)
theorem t_w {k : Bool} (h : Wy X e δ k) : Ty X e δ k := fun σ H G Q eg en q => leT pwW.pt (h σ H G Q eg en q)
theorem w_and1 {k : Bool} (h : Ty X a δ k) : Wy X (.BoolOp .And [a] pos) δ k := fun σ H G Q eg en q => leW (pw_and1 ptW) (h σ H G Q eg en q)
theorem w_or1 {k : Bool} (h : Ty X a δ k) : Wy X (.BoolOp .Or [a] pos) δ k := fun σ H G Q eg en q => leW (pw_or1 ptW) (h σ H G Q eg en q)
theorem w_and {k l : Bool} (h : Ty X a δ k) (h2 : k = true → Wy X (.BoolOp .And (b :: es) pos) δ l) : Wy X (.BoolOp .And (a :: b :: es) pos) δ (k && l) := fun σ H G Q eg en q =>
  leW (pw_and ptW pwW) (h σ H G _ eg en fun H1 G1 v1 => by
    cases k with
    | true => exact h2 rfl σ H1 G1 Q v1.gh (en.mono v1.gg) fun H2 G2 v2 => q H2 G2 (v1.trans v2)
    | false => exact q H1 G1 v1)
theorem w_or {k l : Bool} (h : Ty X a δ k) (h2 : k = false → Wy X (.BoolOp .Or (b :: es) pos) δ l) : Wy X (.BoolOp .Or (a :: b :: es) pos) δ (k || l) := fun σ H G Q eg en q =>
  leW (pw_or ptW pwW) (h σ H G _ eg en fun H1 G1 v1 => by
    cases k with
    | false => exact h2 rfl σ H1 G1 Q v1.gh (en.mono v1.gg) fun H2 G2 v2 => q H2 G2 (v1.trans v2)
    | true => exact q H1 G1 v1)
/-- as values -/
theorem y_and1 {op : BoolOp} (h : Ey X a δ c) : Ey X (.BoolOp op [a] pos) δ c := fun σ H G Q eg en q => leE (pe_one peW) (h σ H G Q eg en q)
theorem y_and {k l : Bool} (h : Ey X a δ (.d (.bool k))) (h2 : k = true → Ey X (.BoolOp .And (b :: es) pos) δ (.d (.bool l))) : Ey X (.BoolOp .And (a :: b :: es) pos) δ (.d (.bool (k && l))) := fun σ H G Q eg en q =>
  leE (pe_and peW peW) (h σ H G _ eg en fun v H1 G1 v1 o1 => by
    have o1' : Rp X.K G1 v (.bool k) := o1
    cases o1'
    refine ⟨k, rfl, ?_⟩
    cases k with
    | true => exact h2 rfl σ H1 G1 Q v1.gh (en.mono v1.gg) fun v H2 G2 v2 o2 => q v H2 G2 (v1.trans v2) o2
    | false => exact q _ H1 G1 v1 (Rp.bl false))
theorem y_or {k l : Bool} (h : Ey X a δ (.d (.bool k))) (h2 : k = false → Ey X (.BoolOp .Or (b :: es) pos) δ (.d (.bool l))) : Ey X (.BoolOp .Or (a :: b :: es) pos) δ (.d (.bool (k || l))) := fun σ H G Q eg en q =>
  leE (pe_or peW peW) (h σ H G _ eg en fun v H1 G1 v1 o1 => by
    have o1' : Rp X.K G1 v (.bool k) := o1
    cases o1'
    refine ⟨k, rfl, ?_⟩
    cases k with
    | false => exact h2 rfl σ H1 G1 Q v1.gh (en.mono v1.gg) fun v H2 G2 v2 o2 => q v H2 G2 (v1.trans v2) o2
    | true => exact q _ H1 G1 v1 (Rp.bl true))
theorem y_not {k : Bool} (h : Ey X a δ (.d (.bool k))) : Ey X (.UnaryOp .Not a pos) δ (.d (.bool (!k))) := fun σ H G Q eg en q =>
  leE (pe_not peW) (h σ H G _ eg en fun v H1 G1 v1 o1 => by
    have o1' : Rp X.K G1 v (.bool k) := o1
    cases o1'
    exact ⟨k, rfl, q _ H1 G1 v1 (Rp.bl _)⟩)
theorem y_if {k : Bool} {t : Expr} (h : Ty X t δ k) (h1 : k = true → Ey X a δ c) (h2 : k = false → Ey X b δ c) : Ey X (.IfExp t a b pos) δ c := fun σ H G Q eg en q =>
  leE (pe_ifExp ptW peW peW) (h σ H G _ eg en fun H1 G1 v1 => by
    cases k with
    | true => exact h1 rfl σ H1 G1 Q v1.gh (en.mono v1.gg) fun v H2 G2 v2 o2 => q v H2 G2 (v1.trans v2) o2
    | false => exact h2 rfl σ H1 G1 Q v1.gh (en.mono v1.gg) fun v H2 G2 v2 o2 => q v H2 G2 (v1.trans v2) o2)
theorem a_nil : Ay X [] δ [] := fun σ H G Q eg en q => leA pa_nil (q [] H G (Vx.refl eg) .nil)
theorem a_cons {cs : List Cl} (ha : Ey X e δ c) (hr : Ay X es δ cs) (hs : starEach (e :: es) X.env = (false, eval e X.env) :: starEach es X.env := by rfl) : Ay X (e :: es) δ (c :: cs) := fun σ H G Q eg en q =>
  leA (pa_cons peW paW hs) (ha σ H G _ eg en fun v H1 G1 v1 o1 => hr σ H1 G1 _ v1.gh (en.mono v1.gg) fun vs H2 G2 v2 o2 => q _ H2 G2 (v1.trans v2) (.cons (o1.mono v2.gg) o2))
theorem CAll.len {K : PySem.W.Frag} {G : Hp} : ∀ {cs : List Cl} {vs : List V}, CAll K G cs vs → cs.length = vs.length
  | _, _, .nil => rfl
  | _, _, .cons _ r => by rw [List.length_cons, List.length_cons, CAll.len r]
/-- a tuple, a list of written items -/
theorem y_tup {ds : List PyData} {x1 : Nat} (h : Ay X es δ (ds.map .d)) (hz : ds.length ≤ 1000) : Ey X (.Tuple es x1 pos) δ (.d (.tuple ds)) := fun σ H G Q eg en q =>
  leE (pe_tup paW) (h σ H G _ eg en fun vs H1 G1 v1 o1 => by
    have r := o1.data
    refine ⟨by rw [r.length]; exact Nat.le_of_lt (small1000 hz), fun p hp => ?_⟩
    have v2 : Vx H1 G1 (upd H1 p (.tup vs)) (upd G1 p (.tup vs)) := Vx.new v1.gh hp
    exact q _ _ _ (v1.trans v2) (Rp.tup (SqT.of upd_same) (r.mono v2.gg)))
theorem y_lst {ds : List PyData} (h : Ay X es δ (ds.map .d)) (hz : ds.length ≤ 1000) : Ey X (.List es pos) δ (.d (.list ds)) := fun σ H G Q eg en q =>
  leE (pe_lst paW) (h σ H G _ eg en fun vs H1 G1 v1 o1 => by
    have r := o1.data
    refine ⟨by rw [r.length]; exact Nat.le_of_lt (small1000 hz), fun p hp => ?_⟩
    have v2 : Vx H1 G1 (upd H1 p (.lst vs)) (upd G1 p (.lst vs)) := Vx.new v1.gh hp
    exact q _ _ _ (v1.trans v2) (Rp.lst upd_same (r.mono v2.gg)))
theorem y_ix (ho : Xy X c1 c2 c) (ha : Ey X a δ c1) (hb : Ey X b δ c2) (hs : PlainIx b := by exact fun _ _ => rfl) : Ey X (.Subscript a b pos) δ c := fun σ H G Q eg en q => by
  obtain ⟨r, hr, h⟩ := ho
  refine leE (pe_ix hr peW peW hs) (ha σ H G _ eg en fun x H1 G1 v1 o1 => hb σ H1 G1 _ v1.gh (en.mono v1.gg) fun y H2 G2 v2 o2 => ?_)
  exact h x y H2 G2 Q v2.gh (o1.mono v2.gg) o2 fun v H3 G3 v3 o3 => q v H3 G3 ((v1.trans v2).trans v3) o3
/-- a built-in's call -/
theorem y_callB {id : String} {cs : List Cl} {x : Str} {p : Pos} (hc : Cy X (.builtin id) cs c) (hg : Gl X x) (hm : X.mg x = none) (hv : bootBuiltins x = some (.builtin id)) (ha : Ay X (e :: es) δ cs) (hn : x ≠ "__name__" := by decide) (hdb : (x == ("__debug__" : Str)) = false := by decide)
    (he : starEach (e :: es) X.env = (false, eval e X.env) :: starEach es X.env := by rfl) (hpl : (backTo pos (starEach es X.env)).any (·.1) = false := by rfl) : Ey X (.Call (.Name x p) (e :: es) [] pos) δ c := fun σ H G Q eg en q => by
  obtain ⟨r, hr, h⟩ := hc
  refine leE (pe_callB hr hg hm hv paW hn hdb he hpl) (ha σ H G _ eg en fun vs H1 G1 v1 o1 => ?_)
  exact h vs H1 G1 Q v1.gh o1 fun v H2 G2 v2 o2 => q v H2 G2 (v1.trans v2) o2
theorem y_callTy {T : String} {cs : List Cl} {x : Str} {p : Pos} (hc : Cy X (.type T) cs c) (hg : Gl X x) (hm : X.mg x = none) (hv : bootBuiltins x = some (.type T)) (ha : Ay X (e :: es) δ cs) (hn : x ≠ "__name__" := by decide) (hdb : (x == ("__debug__" : Str)) = false := by decide)
    (he : starEach (e :: es) X.env = (false, eval e X.env) :: starEach es X.env := by rfl) (hpl : (backTo pos (starEach es X.env)).any (·.1) = false := by rfl) : Ey X (.Call (.Name x p) (e :: es) [] pos) δ c := fun σ H G Q eg en q => by
  obtain ⟨r, hr, h⟩ := hc
  refine leE (pe_callTy hr hg hm hv paW hn hdb he hpl) (ha σ H G _ eg en fun vs H1 G1 v1 o1 => ?_)
  exact h vs H1 G1 Q v1.gh o1 fun v H2 G2 v2 o2 => q v H2 G2 (v1.trans v2) o2
/-- a def's promise: from data to data -/
def spR (K : PySem.W.Frag) (R : List Cl → PyData → Prop) : Sp := fun vs H Q _ => ∃ (G : Hp) (cs : List Cl) (d : PyData), Ex G H ∧ CAll K G cs vs ∧ R cs d ∧ ∀ v H2 G2, Vx H G H2 G2 → Rp K G2 v d → Q v H2
theorem y_call {R : List Cl → PyData → Prop} {k : Nat} {f : Addr} {fd : FuncData} {ps : List Str} {x : Str} {p : Pos} {cs : List Cl} {d : PyData} (F : FnOk X.prog X.w X.K X.mg X.base CX0 k f fd ps (spR X.K R)) (hr : Room k X.A) (hg : Gl X x) (hm : X.mg x = some (.ref f)) (hk : PySem.W.keepIn X.K (.ref f) = true) (hb : Binds X.K fd ps [])
    (ha : Ay X (e :: es) δ cs) (hR : R cs d) (hdb : (x == ("__debug__" : Str)) = false := by decide) (he : starEach (e :: es) X.env = (false, eval e X.env) :: starEach es X.env := by rfl) (hpl : (backTo pos (starEach es X.env)).any (·.1) = false := by rfl) : Ey X (.Call (.Name x p) (e :: es) [] pos) δ (.d d) := fun σ H G Q eg en q => by
  refine leE (pe_call F hr hg hm hk hb .nil pass0 paW hdb he hpl) (ha σ H G _ eg en fun vs H1 G1 v1 o1 => ?_)
  rw [List.append_nil]
  exact ⟨G1, cs, d, v1.gh, o1, hR, fun v H2 G2 v2 o2 => q v H2 G2 (v1.trans v2) o2⟩
end
end KW
set_option linter.all false
set_option maxRecDepth 100000
set_option maxHeartbeats 4000000
/-! statements, loops, comprehensions -/
namespace KW
open PySem PySem.Spec PyProof.Rows L2

structure Po where
  nx : DE → Prop
  rt : Cl → Prop
  bk : DE → Prop := fun _ => False
  ct : DE → Prop := fun _ => False
structure Mt (K : PySem.W.Frag) (D : Ends) (P : Po) (H G : Hp) : Prop where
  nx : ∀ σ2 H2 G2 δ2, Vx H G H2 G2 → En K G2 σ2 δ2 → P.nx δ2 → D.nx σ2 H2
  rt : ∀ v H2 G2 c, Vx H G H2 G2 → cOk K G2 c v → P.rt c → D.rt v H2
  bk : ∀ σ2 H2 G2 δ2, Vx H G H2 G2 → En K G2 σ2 δ2 → P.bk δ2 → D.bk σ2 H2
  ct : ∀ σ2 H2 G2 δ2, Vx H G H2 G2 → En K G2 σ2 δ2 → P.ct δ2 → D.ct σ2 H2
theorem Mt.mono {K : PySem.W.Frag} {D : Ends} {P : Po} {H G H1 G1 : Hp} (m : Mt K D P H G) (v : Vx H G H1 G1) : Mt K D P H1 G1 :=
  ⟨fun σ2 H2 G2 δ2 w => m.nx σ2 H2 G2 δ2 (v.trans w), fun u H2 G2 c w => m.rt u H2 G2 c (v.trans w), fun σ2 H2 G2 δ2 w => m.bk σ2 H2 G2 δ2 (v.trans w), fun σ2 H2 G2 δ2 w => m.ct σ2 H2 G2 δ2 (v.trans w)⟩
section
variable (X : Cx)
def S1 (st : Stmt) (δ : DE) (P : Po) : Prop := ∀ (σ : L2.St) (H G : Hp) (D : Ends), Ex G H → En X.K G σ δ → Mt X.K D P H G → tWS X st D σ H
def Sy (sts : List Stmt) (δ : DE) (P : Po) : Prop := ∀ (σ : L2.St) (H G : Hp) (D : Ends), Ex G H → En X.K G σ δ → Mt X.K D P H G → tWSs X sts D σ H
/-- a target takes data -/
def Gy (tg : Expr) (δ : DE) (d : PyData) (δ' : DE) : Prop := ∃ g : TG, PG X tg g ∧ ∀ (v : V) (σ : L2.St) (H G : Hp) (Q : L2.St → Hp → Prop), Ex G H → En X.K G σ δ → Rp X.K G v d → (∀ σ' H' G', Vx H G H' G' → En X.K G' σ' δ' → Q σ' H') → g v σ H Q
end
structure ItOk (K : PySem.W.Frag) (J : It) (G1 : Hp) (ds : List PyData) : Prop where
  go : ∀ (i : Nat) (d : PyData) (H G : Hp), Ex G1 G → Ex G H → ds[i]? = some d → J.go i H
  yld : ∀ (i : Nat) (d : PyData) (H G : Hp) (x : V) (H' : Hp), Ex G1 G → Ex G H → ds[i]? = some d → J.yld i H x H' → ∃ G', Vx H G H' G' ∧ Rp K G' x d
  stop : ∀ (i : Nat) (H G : Hp), Ex G1 G → Ex G H → ds.length ≤ i → J.stop i H
/-- what is walked -/
def Iy (X : Cx) (tg iter : Expr) (δ : DE) (ds : List PyData) : Prop := ∃ wi : TI, PI X tg iter wi ∧ ∀ (σ : L2.St) (H G : Hp) (R : It → Hp → Prop), Ex G H → En X.K G σ δ → (∀ J H1 G1, Vx H G H1 G1 → ItOk X.K J G1 ds → R J H1) → wi σ H R
section
variable {X : Cx} {δ δ' : DE} {a b e : Expr} {es : List Expr} {c : Cl} {pos : Pos} {P : Po} {st : Stmt} {sts ta tb : List Stmt}
theorem s_nil (h : P.nx δ) : Sy X [] δ P := fun σ H G D eg en m => leSs pss_nil (m.nx σ H G δ (Vx.refl eg) en h)
theorem s_cons (h : S1 X st δ { P with nx := fun δ' => Sy X sts δ' P }) : Sy X (st :: sts) δ P := fun σ H G D eg en m =>
  leSs (pss_cons psW pssW) (h σ H G _ eg en ⟨fun σ2 H2 G2 δ2 v e2 q => q σ2 H2 G2 D v.gh e2 (m.mono v), fun u H2 G2 c v o q => m.rt u H2 G2 c v o q, fun σ2 H2 G2 δ2 v e2 q => m.bk σ2 H2 G2 δ2 v e2 q, fun σ2 H2 G2 δ2 v e2 q => m.ct σ2 H2 G2 δ2 v e2 q⟩)
theorem s_one (h : S1 X st δ P) : Sy X [st] δ P := fun σ H G D eg en m => leSs (pss_one psW) (h σ H G D eg en m)
theorem s_weak (h : Sy X sts δ' P) (hl : δ'.length = δ.length) (w : ∀ (i : Nat) (c : Cl), δ'[i]? = some (some c) → δ[i]? = some (some c)) : Sy X sts δ P := fun σ H G D eg en m => h σ H G D eg (en.weak hl w) m
theorem s_set {i : Nat} {x : Str} {pos' : Pos} (hN : X.N.Nodup) (hi : X.N[i]? = some x) (hx : Loc X.env.scope x) (he : Ey X e δ c) (q : P.nx (δ.set i (some c))) (hs : swapsWith e (some (.Name x pos')) pos.line X.env = pure false := by rfl)
    (hf : X.fn x = true ∨ X.env.scope.names.lookup x = some .local := by first | exact .inl rfl | exact .inr rfl | assumption) : S1 X (.Assign [.Name x pos'] e pos) δ P := fun σ H G D eg en m =>
  leS (ps_set hN hi hx peW hs hf) (he σ H G _ eg en fun v H1 G1 v1 o1 => m.nx _ _ _ _ v1 ((en.mono v1.gg).set i o1) q)
theorem s_ret (he : Ey X e δ c) (q : P.rt c) : S1 X (.Return (some e) pos) δ P := fun σ H G D eg en m =>
  leS (ps_ret peW) (he σ H G _ eg en fun v H1 G1 v1 o1 => m.rt v H1 G1 c v1 o1 q)
theorem s_retN (q : P.rt (.d .none)) : S1 X (.Return none pos) δ P := fun σ H G D eg en m => leS ps_retN (m.rt .non H G (.d .none) (Vx.refl eg) Rp.non q)
theorem s_pass (q : P.nx δ) : S1 X (.Pass pos) δ P := fun σ H G D eg en m => leS ps_pass (m.nx σ H G δ (Vx.refl eg) en q)
theorem s_brk (q : P.bk δ) : S1 X (.Break pos) δ P := fun σ H G D eg en m => leS ps_break (m.bk σ H G δ (Vx.refl eg) en q)
theorem s_drop (he : Ey X e δ c) (q : P.nx δ) (hs : swapsWith e none pos.line X.env = pure false := by rfl) : S1 X (.Expr e pos) δ P := fun σ H G D eg en m =>
  leS (ps_expr peW hs) (he σ H G _ eg en fun v H1 G1 v1 o1 => m.nx σ H1 G1 δ v1 (en.mono v1.gg) q)
theorem s_if {k : Bool} (hc : Ty X e δ k) (h1 : k = true → Sy X ta δ P) (h2 : k = false → Sy X tb δ P) : S1 X (.If e ta tb pos) δ P := fun σ H G D eg en m =>
  leS (ps_if ptW pssW pssW) (hc σ H G _ eg en fun H1 G1 v1 => by
    cases k with
    | true => exact h1 rfl σ H1 G1 D v1.gh (en.mono v1.gg) (m.mono v1)
    | false => exact h2 rfl σ H1 G1 D v1.gh (en.mono v1.gg) (m.mono v1))
theorem s_asg {tg : Expr} {d : PyData} (he : Ey X e δ (.d d)) (hg : Gy X tg δ d δ') (q : P.nx δ') (hs : swapsWithSole [tg] e pos.line X.env = pure false := by rfl) (hw : swappedStores [tg] e X.env = pure none := by rfl)
    (h1 : (assignEach [tg] X.env).map (·.2) = [assign tg X.env] := by rfl) : S1 X (.Assign [tg] e pos) δ P := fun σ H G D eg en m => by
  obtain ⟨g, hp, hq⟩ := hg
  refine leS (ps_asg peW hp hs hw h1) (he σ H G _ eg en fun v H1 G1 v1 o1 => ?_)
  exact hq v σ H1 G1 _ v1.gh (en.mono v1.gg) o1 fun σ2 H2 G2 v2 e2 => m.nx σ2 H2 G2 δ' (v1.trans v2) e2 q
theorem s_par {i j : Nat} {x y : Str} {px py pt : Pos} {kt k2 : Nat} {pt2 : Pos} {c1 c2 : Cl} (hc : X.calm = true) (hN : X.N.Nodup) (hi : X.N[i]? = some x) (hj : X.N[j]? = some y) (hij : i ≠ j)
    (hx : X.env.scope.names.lookup x = some .local) (hy : X.env.scope.names.lookup y = some .local) (ha : Ay X [a, b] δ [c1, c2]) (q : P.nx ((δ.set i (some c1)).set j (some c2)))
    (hw : swappedStores [.Tuple [.Name x px, .Name y py] kt pt] (.Tuple [a, b] k2 pt2) X.env = pure (some [x, y]) := by rfl)
    (hs : swapsWithSole [.Tuple [.Name x px, .Name y py] kt pt] (.Tuple [a, b] k2 pt2) pos.line X.env = pure false := by rfl) : S1 X (.Assign [.Tuple [.Name x px, .Name y py] kt pt] (.Tuple [a, b] k2 pt2) pos) δ P := fun σ H G D eg en m =>
  leS (ps_par hc hN hi hj hij hx hy paW hw hs) (ha σ H G _ eg en fun vs H1 G1 v1 o1 => by
    cases o1 with
    | cons o1 r =>
      cases r with
      | cons o2 r =>
        cases r
        exact ⟨_, _, rfl, m.nx _ _ _ _ v1 (((en.mono v1.gg).set i o1).set j o2) q⟩)
/-- a name as a target -/
theorem g_name {i : Nat} {x : Str} {d : PyData} (hN : X.N.Nodup) (hi : X.N[i]? = some x) (hx : Loc X.env.scope x) (hf : X.fn x = true ∨ X.env.scope.names.lookup x = some .local := by first | exact .inl rfl | exact .inr rfl | assumption) : Gy X (.Name x pos) δ d (δ.set i (some (.d d))) :=
  ⟨gName i, pg_name hN hi hx hf, fun v σ H G Q eg en r q => q _ H G (Vx.refl eg) (en.set i r)⟩
def Gys (X : Cx) (ts : List Expr) (δ : DE) (ds : List PyData) (δ' : DE) : Prop := ∃ g : TGs, PGs X ts g ∧ ∀ (vs : List V) (σ : L2.St) (H G : Hp) (Q : L2.St → Hp → Prop), Ex G H → En X.K G σ δ → RpAll X.K G vs ds → (∀ σ' H' G', Vx H G H' G' → En X.K G' σ' δ' → Q σ' H') → g vs σ H Q
theorem gs_nil : Gys X [] δ [] δ := ⟨gNil, pgs_nil, fun vs σ H G Q eg en r q => by
  cases r
  exact ⟨rfl, q σ H G (Vx.refl eg) en⟩⟩
theorem gs_cons {d : PyData} {ds : List PyData} {δ1 : DE} (h : Gy X e δ d δ1) (h2 : Gys X es δ1 ds δ') (hs : (assignEach (e :: es) X.env).map (·.2) = assign e X.env :: (assignEach es X.env).map (·.2) := by rfl) : Gys X (e :: es) δ (d :: ds) δ' := by
  obtain ⟨g, hp, hq⟩ := h
  obtain ⟨g2, hp2, hq2⟩ := h2
  refine ⟨gCons g g2, pgs_cons hp hp2 hs, fun vs σ H G Q eg en r q => ?_⟩
  cases r with
  | cons r1 r2 =>
    exact ⟨_, _, rfl, hq _ σ H G _ eg en r1 fun σ1 H1 G1 v1 e1 => hq2 _ σ1 H1 G1 _ v1.gh e1 (r2.mono v1.gg) fun σ2 H2 G2 v2 e2 => q σ2 H2 G2 (v1.trans v2) e2⟩
theorem g_tup {ds : List PyData} {k : Nat} (hc : X.calm = true) (h : Gys X es δ ds δ') (hn : (assignEach es X.env).length = ds.length := by rfl) (hst : (assignEach es X.env).findIdx? (·.1) = none := by rfl) : Gy X (.Tuple es k pos) δ (.tuple ds) δ' := by
  obtain ⟨g, hp, hq⟩ := h
  refine ⟨gTup X.K ds.length g, pg_tup hc hp hn hst, fun v σ H G Q eg en r q => ?_⟩
  cases r with
  | tup h r => exact ⟨_, _, rfl, ex_t eg h, r.length, hq _ σ H G Q eg en r q⟩
/-- while: a word with a measure -/
theorem s_while (I : Nat → DE → Prop) (m0 : Nat) (h0 : I m0 δ) (hp : PassesOwn (model X.prog X.w) X.A X.env X.xe)
    (hs : ∀ m δ', I m δ' → ∃ k, Ty X e δ' k ∧ (k = true → Sy X tb δ' { P with nx := fun δ2 => ∃ m2, m2 < m ∧ I m2 δ2, ct := fun δ2 => ∃ m2, m2 < m ∧ I m2 δ2, bk := P.nx }) ∧ (k = false → P.nx δ')) : S1 X (.While e tb [] pos) δ P := fun σ H G D eg en mt =>
  leS (ps_while hp ptW pssW) ⟨fun m σ' H' => ∃ δ' G', Vx H G H' G' ∧ En X.K G' σ' δ' ∧ I m δ', ⟨m0, δ, G, Vx.refl eg, en, h0⟩, fun m σ' H' ⟨δ', G', v, en', i⟩ => by
    obtain ⟨k, hk, h1, h2⟩ := hs m δ' i
    refine hk σ' H' G' _ v.gh en' fun H1 G1 v1 => ?_
    cases k with
    | true =>
      refine ⟨fun σ2 H2 => ∃ m2, m2 < m ∧ ∃ δ2 G2, Vx H G H2 G2 ∧ En X.K G2 σ2 δ2 ∧ I m2 δ2, fun σ2 H2 h => h, h1 rfl σ' H1 G1 _ v1.gh (en'.mono v1.gg) ⟨fun σ2 H2 G2 δ2 v2 e2 ⟨m2, l, q⟩ => ⟨m2, l, δ2, G2, (v.trans v1).trans v2, e2, q⟩, fun u H2 G2 c v2 o q => mt.rt u H2 G2 c ((v.trans v1).trans v2) o q,
        fun σ2 H2 G2 δ2 v2 e2 q => mt.nx σ2 H2 G2 δ2 ((v.trans v1).trans v2) e2 q, fun σ2 H2 G2 δ2 v2 e2 ⟨m2, l, q⟩ => ⟨m2, l, δ2, G2, (v.trans v1).trans v2, e2, q⟩⟩⟩
    | false => exact mt.nx σ' H1 G1 δ' (v.trans v1) (en'.mono v1.gg) (h2 rfl)⟩
/-- for over what is walked -/
theorem s_for {tg iter : Expr} {ds : List PyData} (hp : PassesOwn (model X.prog X.w) X.A X.env X.xe) (hc : X.calm = true) (hi : Iy X tg iter δ ds) (g : TG) (hg : PG X tg g) (I : Nat → DE → Prop) (h0 : I 0 δ)
    (hs : ∀ i d δ', ds[i]? = some d → I i δ' → ∃ δ1, (∀ (v : V) (σ : L2.St) (H G : Hp) (Q : L2.St → Hp → Prop), Ex G H → En X.K G σ δ' → Rp X.K G v d → (∀ σ' H' G', Vx H G H' G' → En X.K G' σ' δ1 → Q σ' H') → g v σ H Q) ∧ Sy X tb δ1 { P with nx := I (i + 1), ct := I (i + 1), bk := P.nx })
    (hd : ∀ δ', I ds.length δ' → P.nx δ') (hfs : ∀ x, foldedSetIterable iter X.env x = pure x := by intro _; rfl) : S1 X (.For tg iter tb [] pos) δ P := fun σ H G D eg en mt => by
  obtain ⟨wi, hwi, hw⟩ := hi
  refine leS (ps_for hp hc hwi hg pssW hfs) (hw σ H G _ eg en fun J H1 G1 v1 ok => ?_)
  refine ⟨fun i m σ' H' => m = ds.length - i ∧ i ≤ ds.length ∧ ∃ δ' G', Vx H1 G1 H' G' ∧ En X.K G' σ' δ' ∧ I i δ', ⟨ds.length, by omega, Nat.zero_le _, δ, G1, Vx.refl v1.gh, en.mono v1.gg, h0⟩, ?_⟩
  rintro i m σ' H' ⟨rfl, hi, δ', G', v, en', q⟩
  by_cases hlt : i < ds.length
  · refine .inr ⟨ok.go i _ H' G' v.gg v.gh (List.getElem?_eq_getElem hlt), fun σ2 H2 => (i + 1 ≤ ds.length ∧ ∃ δ2 G2, Vx H1 G1 H2 G2 ∧ En X.K G2 σ2 δ2 ∧ I (i + 1) δ2), fun σ2 H2 ⟨l, h⟩ => ⟨ds.length - (i + 1), by omega, rfl, l, h⟩, fun x H2 y => ?_⟩
    obtain ⟨G2, v2, r2⟩ := ok.yld i _ H' G' x H2 v.gg v.gh (List.getElem?_eq_getElem hlt) y
    obtain ⟨δ1, t1, t2⟩ := hs i _ δ' (List.getElem?_eq_getElem hlt) q
    refine t1 x σ' H2 G2 _ v2.gh (en'.mono v2.gg) r2 fun σ3 H3 G3 v3 e3 => ?_
    have w3 := (v.trans v2).trans v3
    exact t2 σ3 H3 G3 _ v3.gh e3 ⟨fun σ4 H4 G4 δ4 v4 e4 q4 => ⟨by omega, δ4, G4, w3.trans v4, e4, q4⟩, fun u H4 G4 c v4 o q4 => mt.rt u H4 G4 c ((v1.trans w3).trans v4) o q4, fun σ4 H4 G4 δ4 v4 e4 q4 => mt.nx σ4 H4 G4 δ4 ((v1.trans w3).trans v4) e4 q4, fun σ4 H4 G4 δ4 v4 e4 q4 => ⟨by omega, δ4, G4, w3.trans v4, e4, q4⟩⟩
  · have e : i = ds.length := by omega
    subst e
    exact .inl ⟨ok.stop _ H' G' v.gg v.gh (Nat.le_refl _), mt.nx σ' H' G' δ' (v1.trans v) en' (hd δ' q)⟩
/-- for: the target one name -/
theorem s_forN {iter : Expr} {ds : List PyData} {j : Nat} {x : Str} {px : Pos} (hp : PassesOwn (model X.prog X.w) X.A X.env X.xe) (hc : X.calm = true) (hN : X.N.Nodup) (hj : X.N[j]? = some x) (hx : Loc X.env.scope x) (hi : Iy X (.Name x px) iter δ ds) (I : Nat → DE → Prop) (h0 : I 0 δ)
    (hs : ∀ i d δ', ds[i]? = some d → I i δ' → Sy X tb (δ'.set j (some (.d d))) { P with nx := I (i + 1), ct := I (i + 1), bk := P.nx })
    (hd : ∀ δ', I ds.length δ' → P.nx δ') (hf : X.fn x = true ∨ X.env.scope.names.lookup x = some .local := by first | exact .inl rfl | exact .inr rfl | assumption) (hfs : ∀ x, foldedSetIterable iter X.env x = pure x := by intro _; rfl) : S1 X (.For (.Name x px) iter tb [] pos) δ P :=
  s_for hp hc hi (gName j) (pg_name hN hj hx hf) I h0 (fun i d δ' e q => ⟨_, fun v σ H G Q eg en r k => k _ H G (Vx.refl eg) (en.set (c := .d d) j r), hs i d δ' e q⟩) hd hfs
/-- for: the target two names -/
theorem s_forP {iter : Expr} {ds : List PyData} {j1 j2 : Nat} {x1 x2 : Str} {p1 p2 pt : Pos} {kt : Nat} (hp : PassesOwn (model X.prog X.w) X.A X.env X.xe) (hc : X.calm = true) (hN : X.N.Nodup) (hj1 : X.N[j1]? = some x1) (hj2 : X.N[j2]? = some x2) (hx1 : Loc X.env.scope x1) (hx2 : Loc X.env.scope x2)
    (hi : Iy X (.Tuple [.Name x1 p1, .Name x2 p2] kt pt) iter δ ds) (I : Nat → DE → Prop) (h0 : I 0 δ)
    (hs : ∀ i d δ', ds[i]? = some d → I i δ' → ∃ d1 d2, d = .tuple [d1, d2] ∧ Sy X tb ((δ'.set j1 (some (.d d1))).set j2 (some (.d d2))) { P with nx := I (i + 1), ct := I (i + 1), bk := P.nx })
    (hd : ∀ δ', I ds.length δ' → P.nx δ') (hf1 : X.fn x1 = true ∨ X.env.scope.names.lookup x1 = some .local := by first | exact .inl rfl | exact .inr rfl | assumption) (hf2 : X.fn x2 = true ∨ X.env.scope.names.lookup x2 = some .local := by first | exact .inl rfl | exact .inr rfl | assumption)
    (hfs : ∀ x, foldedSetIterable iter X.env x = pure x := by intro _; rfl)
    (hn : (assignEach [.Name x1 p1, .Name x2 p2] X.env).length = 2 := by rfl) (hst : (assignEach [.Name x1 p1, .Name x2 p2] X.env).findIdx? (·.1) = none := by rfl)
    (ha1 : (assignEach [.Name x1 p1, .Name x2 p2] X.env).map (·.2) = assign (.Name x1 p1) X.env :: (assignEach [.Name x2 p2] X.env).map (·.2) := by rfl) (ha2 : (assignEach [.Name x2 p2] X.env).map (·.2) = assign (.Name x2 p2) X.env :: (assignEach [] X.env).map (·.2) := by rfl) :
    S1 X (.For (.Tuple [.Name x1 p1, .Name x2 p2] kt pt) iter tb [] pos) δ P :=
  s_for hp hc hi (gTup X.K 2 (gCons (gName j1) (gCons (gName j2) gNil))) (pg_tup hc (pgs_cons (pg_name hN hj1 hx1 hf1) (pgs_cons (pg_name hN hj2 hx2 hf2) pgs_nil ha2) ha1) hn hst) I h0 (fun i d δ' e q => by
    obtain ⟨d1, d2, rfl, h⟩ := hs i d δ' e q
    refine ⟨_, fun v σ H G Q eg en r k => ?_, h⟩
    cases r with
    | tup ht r =>
      cases r with
      | cons r1 r2 =>
        cases r2 with
        | cons r2 r3 =>
          cases r3
          exact ⟨_, _, rfl, ex_t eg ht, rfl, _, _, rfl, _, _, rfl, rfl, k _ H G (Vx.refl eg) ((en.set (c := .d d1) j1 r1).set (c := .d d2) j2 r2)⟩) hd hfs
/-! ### what is walked -/
theorem itl_ok {K : PySem.W.Frag} {p : Addr} {xs : List V} {G1 : Hp} {ds : List PyData} (h : G1 p = some (.lst xs)) (r : RpAll K G1 xs ds) : ItOk K (Itl K p) G1 ds where
  go := fun i d H G e1 e2 q => by
    obtain ⟨v, e, _⟩ := r.get q
    exact ⟨xs, v, SqL.of (e2 _ _ (e1 _ _ h)), e⟩
  yld := fun i d H G x H' e1 e2 q y => by
    obtain ⟨v, e, rv⟩ := r.get q
    obtain ⟨rfl, y⟩ := y
    have e3 := y xs (SqL.of (e2 _ _ (e1 _ _ h)))
    rw [e] at e3
    cases e3
    exact ⟨G, Vx.refl e2, rv.mono e1⟩
  stop := fun i H G e1 e2 q => ⟨xs, SqL.of (e2 _ _ (e1 _ _ h)), by rw [r.length]; exact q⟩
theorem itt_ok {K : PySem.W.Frag} {p : Addr} {xs : List V} {G1 : Hp} {ds : List PyData} (h : SqT K G1 p xs) (r : RpAll K G1 xs ds) : ItOk K (Itt K p) G1 ds where
  go := fun i d H G e1 e2 q => by
    obtain ⟨v, e, _⟩ := r.get q
    exact ⟨xs, v, ex_t e2 (ex_t e1 h), e⟩
  yld := fun i d H G x H' e1 e2 q y => by
    obtain ⟨v, e, rv⟩ := r.get q
    obtain ⟨rfl, y⟩ := y
    have e3 := y xs (ex_t e2 (ex_t e1 h))
    rw [e] at e3
    cases e3
    exact ⟨G, Vx.refl e2, rv.mono e1⟩
  stop := fun i H G e1 e2 q => ⟨xs, ex_t e2 (ex_t e1 h), by rw [r.length]; exact q⟩
theorem i_list {tg : Expr} {ds : List PyData} (h : Ey X e δ (.d (.list ds))) : Iy X tg e δ ds := ⟨iList X.K (tW X e), pi_list peW, fun σ H G R eg en q => h σ H G _ eg en fun v H1 G1 v1 o1 => by
  have o : Rp X.K G1 v (.list ds) := o1
  cases o with
  | lst hp r => exact ⟨_, rfl, ⟨_, SqL.of (v1.gh _ _ hp)⟩, q _ H1 G1 v1 (itl_ok hp r)⟩⟩
theorem i_tup {tg : Expr} {ds : List PyData} (h : Ey X e δ (.d (.tuple ds))) : Iy X tg e δ ds := ⟨iTup X.K (tW X e), pi_tup peW, fun σ H G R eg en q => h σ H G _ eg en fun v H1 G1 v1 o1 => by
  have o : Rp X.K G1 v (.tuple ds) := o1
  cases o with
  | tup hp r => exact ⟨_, rfl, ⟨_, ex_t v1.gh hp⟩, q _ H1 G1 v1 (itt_ok hp r)⟩⟩
def rangeD (lo : Int) (n : Nat) : List PyData := (List.range n).map fun (i : Nat) => .int (lo + (i : Int))
theorem rangeD_at {lo : Int} {n i : Nat} {d : PyData} (h : (rangeD lo n)[i]? = some d) : i < n ∧ d = .int (lo + (i : Int)) := by
  unfold rangeD at h
  rw [List.getElem?_map] at h
  by_cases l : i < n
  · rw [List.getElem?_range l] at h
    exact ⟨l, (Option.some.inj h).symm⟩
  · rw [List.getElem?_eq_none (by rw [List.length_range]; omega)] at h
    cases h
theorem rangeD_len {lo : Int} {n : Nat} : (rangeD lo n).length = n := by
  unfold rangeD
  rw [List.length_map, List.length_range]
theorem itr_ok {K : PySem.W.Frag} {G1 : Hp} {lo : Int} {n : Nat} : ItOk K (Itr lo n) G1 (rangeD lo n) where
  go := fun i d H G e1 e2 q => (rangeD_at q).1
  yld := fun i d H G x H' e1 e2 q y => by
    obtain ⟨rfl, rfl⟩ := y
    obtain ⟨_, rfl⟩ := rangeD_at q
    exact ⟨G, Vx.refl e2, Rp.int _⟩
  stop := fun i H G e1 e2 q => by
    rw [rangeD_len] at q
    exact q
theorem i_range {tg : Expr} {n : Int} {p : Pos} (hg : Gl X "range") (hm : X.mg "range" = none) (h : Ey X a δ (.d (.int n))) (hn : n ≤ 100000 ∧ -100000 ≤ n) (hs : starEach [a] X.env = [(false, eval a X.env)] := by rfl) : Iy X tg (.Call (.Name "range" p) [a] [] pos) δ (rangeD 0 n.toNat) :=
  ⟨iRng1 (tWA X [a]), pi_range1 hg hm paW hs, fun σ H G R eg en q => a_cons h a_nil (by rw [hs]; rfl) σ H G _ eg en fun vs H1 G1 v1 o1 => by
    cases o1 with
    | cons o1 r =>
      cases r
      have o : Rp X.K G1 _ (.int n) := o1
      cases o
      exact ⟨n, rfl, by omega, by omega, q _ H1 G1 v1 itr_ok⟩⟩
end
end KW
set_option linter.all false
set_option maxRecDepth 100000
set_option maxHeartbeats 4000000
/-! pairs walked; comprehensions -/
namespace KW
open PySem PySem.Spec PyProof.Rows L2
theorem new_pair {K : PySem.W.Frag} {H G : Hp} {T : Addr} {x y : V} {d e : PyData} (eg : Ex G H) (hT : H T = none) (r1 : Rp K G x d) (r2 : Rp K G y e) : ∃ G', Vx H G (upd H T (.tup [x, y])) G' ∧ Rp K G' (.ref T) (.tuple [d, e]) := by
  have v := Vx.new (o := .tup [x, y]) eg hT
  exact ⟨_, v, .tup (SqT.of upd_same) (.cons (r1.mono v.gg) (.cons (r2.mono v.gg) .nil))⟩
def enumD (ds : List PyData) : List PyData := ds.zipIdx.map fun p => .tuple [.int (p.2 : Nat), p.1]
theorem enumD_len {ds : List PyData} : (enumD ds).length = ds.length := by
  unfold enumD
  rw [List.length_map, List.length_zipIdx]
theorem enumD_at {ds : List PyData} {i : Nat} {d : PyData} (h : (enumD ds)[i]? = some d) : ∃ e, ds[i]? = some e ∧ d = .tuple [.int (i : Nat), e] := by
  unfold enumD at h
  rw [List.getElem?_map, List.getElem?_zipIdx] at h
  cases q : ds[i]? with
  | none => rw [q] at h; cases h
  | some e =>
    rw [q] at h
    refine ⟨e, rfl, ?_⟩
    have := Option.some.inj h
    rw [← this]
    simp
theorem ite_ok {K : PySem.W.Frag} {p : Addr} {xs : List V} {G1 : Hp} {ds : List PyData} (h : G1 p = some (.lst xs)) (r : RpAll K G1 xs ds) : ItOk K (Ite K p) G1 (enumD ds) where
  go := fun i d H G e1 e2 q => by
    obtain ⟨e, qe, _⟩ := enumD_at q
    obtain ⟨v, ev, _⟩ := r.get qe
    exact ⟨xs, v, SqL.of (e2 _ _ (e1 _ _ h)), ev⟩
  yld := fun i d H G x H' e1 e2 q y => by
    obtain ⟨e, qe, rfl⟩ := enumD_at q
    obtain ⟨v, ev, rv⟩ := r.get qe
    obtain ⟨T, w, rfl, hT, rfl, y⟩ := y
    have e3 := y xs (SqL.of (e2 _ _ (e1 _ _ h)))
    rw [ev] at e3
    cases e3
    exact new_pair e2 hT (.int _) (rv.mono e1)
  stop := fun i H G e1 e2 q => ⟨xs, SqL.of (e2 _ _ (e1 _ _ h)), by rw [r.length, ← enumD_len]; exact q⟩
def zipD (ds es : List PyData) : List PyData := List.zipWith (fun d e => .tuple [d, e]) ds es
theorem zipD_at {ds es : List PyData} {i : Nat} {d : PyData} (h : (zipD ds es)[i]? = some d) : ∃ a b, ds[i]? = some a ∧ es[i]? = some b ∧ d = .tuple [a, b] := by
  unfold zipD at h
  rw [List.getElem?_zipWith] at h
  cases q1 : ds[i]? with
  | none => rw [q1] at h; cases h
  | some a =>
    cases q2 : es[i]? with
    | none => rw [q1, q2] at h; cases h
    | some b =>
      rw [q1, q2] at h
      exact ⟨a, b, rfl, rfl, (Option.some.inj h).symm⟩
theorem zipD_len {ds es : List PyData} : (zipD ds es).length = min ds.length es.length := by
  unfold zipD
  rw [List.length_zipWith]
theorem itz_ok {K : PySem.W.Frag} {p1 p2 : Addr} {xs ys : List V} {G1 : Hp} {ds es : List PyData} (h : G1 p1 = some (.lst xs)) (r : RpAll K G1 xs ds) (h2 : G1 p2 = some (.lst ys)) (r2 : RpAll K G1 ys es) : ItOk K (Itz K p1 p2) G1 (zipD ds es) where
  go := fun i d H G e1 e2 q => by
    obtain ⟨a, b, qa, qb, _⟩ := zipD_at q
    obtain ⟨v, ev, _⟩ := r.get qa
    obtain ⟨w, ew, _⟩ := r2.get qb
    exact ⟨xs, ys, v, w, SqL.of (e2 _ _ (e1 _ _ h)), SqL.of (e2 _ _ (e1 _ _ h2)), ev, ew⟩
  yld := fun i d H G x H' e1 e2 q y => by
    obtain ⟨a, b, qa, qb, rfl⟩ := zipD_at q
    obtain ⟨v, ev, rv⟩ := r.get qa
    obtain ⟨w, ew, rw'⟩ := r2.get qb
    obtain ⟨T, x1, y1, rfl, hT, rfl, y1', y2'⟩ := y
    have e3 := y1' xs (SqL.of (e2 _ _ (e1 _ _ h)))
    rw [ev] at e3
    cases e3
    have e4 := y2' ys (SqL.of (e2 _ _ (e1 _ _ h2)))
    rw [ew] at e4
    cases e4
    exact new_pair e2 hT (rv.mono e1) (rw'.mono e1)
  stop := fun i H G e1 e2 q => ⟨xs, ys, SqL.of (e2 _ _ (e1 _ _ h)), SqL.of (e2 _ _ (e1 _ _ h2)), by rw [zipD_len] at q; rw [r.length, r2.length]; omega⟩
theorem itzT_ok {K : PySem.W.Frag} {p1 p2 : Addr} {xs ys : List V} {G1 : Hp} {ds es : List PyData} (h : SqT K G1 p1 xs) (r : RpAll K G1 xs ds) (h2 : SqT K G1 p2 ys) (r2 : RpAll K G1 ys es) : ItOk K (RZ.ItzT K p1 p2) G1 (zipD ds es) where
  go := fun i d H G e1 e2 q => by
    obtain ⟨a, b, qa, qb, _⟩ := zipD_at q
    obtain ⟨v, ev, _⟩ := r.get qa
    obtain ⟨w, ew, _⟩ := r2.get qb
    exact ⟨xs, ys, v, w, ex_t e2 (ex_t e1 h), ex_t e2 (ex_t e1 h2), ev, ew⟩
  yld := fun i d H G x H' e1 e2 q y => by
    obtain ⟨a, b, qa, qb, rfl⟩ := zipD_at q
    obtain ⟨v, ev, rv⟩ := r.get qa
    obtain ⟨w, ew, rw'⟩ := r2.get qb
    obtain ⟨T, x1, y1, rfl, hT, rfl, y1', y2'⟩ := y
    have e3 := y1' xs (ex_t e2 (ex_t e1 h))
    rw [ev] at e3
    cases e3
    have e4 := y2' ys (ex_t e2 (ex_t e1 h2))
    rw [ew] at e4
    cases e4
    exact new_pair e2 hT (rv.mono e1) (rw'.mono e1)
  stop := fun i H G e1 e2 q => ⟨xs, ys, ex_t e2 (ex_t e1 h), ex_t e2 (ex_t e1 h2), by rw [zipD_len] at q; rw [r.length, r2.length]; omega⟩
section
variable {X : Cx} {δ δ' : DE} {a b e : Expr} {es : List Expr} {c : Cl} {pos : Pos} {P : Po} {st : Stmt} {sts ta tb : List Stmt}
theorem i_enumL {ds : List PyData} {p tpos : Pos} {elts : List Expr} {kk : Nat} (hg : Gl X "enumerate") (hm : X.mg "enumerate" = none) (h : Ey X a δ (.d (.list ds))) (hs : starEach [a] X.env = [(false, eval a X.env)] := by rfl) : Iy X (.Tuple elts kk tpos) (.Call (.Name "enumerate" p) [a] [] pos) δ (enumD ds) :=
  ⟨iEnum X.K (tWA X [a]), pi_enum hg hm paW hs, fun σ H G R eg en q => a_cons h a_nil (by rw [hs]; rfl) σ H G _ eg en fun vs H1 G1 v1 o1 => by
    cases o1 with
    | cons o1 r =>
      cases r
      have o : Rp X.K G1 _ (.list ds) := o1
      cases o with
      | lst hp r => exact ⟨_, _, rfl, SqL.of (v1.gh _ _ hp), q _ H1 G1 v1 (ite_ok hp r)⟩⟩
theorem i_zipL {ds es : List PyData} {p tpos : Pos} {elts : List Expr} {kk : Nat} (hg : Gl X "zip") (hm : X.mg "zip" = none) (h : Ey X a δ (.d (.list ds))) (h2 : Ey X b δ (.d (.list es))) (hs : starEach [a, b] X.env = (false, eval a X.env) :: starEach [b] X.env := by rfl) (hs2 : starEach [b] X.env = (false, eval b X.env) :: starEach [] X.env := by rfl) (hpl : (backTo pos (starEach [b] X.env)).any (·.1) = false := by rfl) :
    Iy X (.Tuple elts kk tpos) (.Call (.Name "zip" p) [a, b] [] pos) δ (zipD ds es) :=
  ⟨iZip X.K (tWA X [a, b]), pi_zip hg hm paW hs hpl, fun σ H G R eg en q => a_cons h (a_cons h2 a_nil hs2) hs σ H G _ eg en fun vs H1 G1 v1 o1 => by
    cases o1 with
    | cons o1 r =>
      cases r with
      | cons o2 r =>
        cases r
        have o : Rp X.K G1 _ (.list ds) := o1
        have o' : Rp X.K G1 _ (.list es) := o2
        cases o with
        | lst hp r =>
          cases o' with
          | lst hp2 r2 => exact ⟨_, _, _, _, rfl, SqL.of (v1.gh _ _ hp), SqL.of (v1.gh _ _ hp2), q _ H1 G1 v1 (itz_ok hp r hp2 r2)⟩⟩
theorem i_zipT {ds es : List PyData} {p tpos : Pos} {elts : List Expr} {kk : Nat} (hg : Gl X "zip") (hm : X.mg "zip" = none) (h : Ey X a δ (.d (.tuple ds))) (h2 : Ey X b δ (.d (.tuple es))) (hs : starEach [a, b] X.env = (false, eval a X.env) :: starEach [b] X.env := by rfl) (hs2 : starEach [b] X.env = (false, eval b X.env) :: starEach [] X.env := by rfl) (hpl : (backTo pos (starEach [b] X.env)).any (·.1) = false := by rfl) :
    Iy X (.Tuple elts kk tpos) (.Call (.Name "zip" p) [a, b] [] pos) δ (zipD ds es) :=
  ⟨RZ.iZipA X.K (tWA X [a, b]), RZ.pi_zipA hg hm paW hs hpl, fun σ H G R eg en q => a_cons h (a_cons h2 a_nil hs2) hs σ H G _ eg en fun vs H1 G1 v1 o1 => by
    cases o1 with
    | cons o1 r =>
      cases r with
      | cons o2 r =>
        cases r
        have o : Rp X.K G1 _ (.tuple ds) := o1
        have o' : Rp X.K G1 _ (.tuple es) := o2
        cases o with
        | tup hp r =>
          cases o' with
          | tup hp2 r2 => exact ⟨_, _, _, _, rfl, .inr ⟨ex_t v1.gh hp, ex_t v1.gh hp2, q _ H1 G1 v1 (itzT_ok hp r hp2 r2)⟩⟩⟩

/-! ### comprehensions -/
def wipeD (δ : DE) : List Nat → DE
  | [] => δ
  | v :: vs => (wipeD δ vs).set v none
theorem En.wipe {K : PySem.W.Frag} {G : Hp} {σ : L2.St} {δ : DE} (h : En K G σ δ) : ∀ vs : List Nat, En K G (L2.wipe σ vs) (wipeD δ vs)
  | [] => h
  | v :: vs => by
    unfold L2.wipe wipeD
    exact (En.wipe h vs).forget v none
/-- within the block -/
def tB (X : Cx) (scope : Scope) (e : Expr) : TE := fun σ H Q => ∀ (s : Shared) (H0 : Hp) (C : Addr) (cl : List (Str × Addr)) (fp : List Addr), tW (X.blk s H0 scope (compEnvC scope cl C X.env) fp) e σ H Q
def tBT (X : Cx) (scope : Scope) (e : Expr) : TT := fun σ H Q => ∀ (s : Shared) (H0 : Hp) (C : Addr) (cl : List (Str × Addr)) (fp : List Addr), tWT (X.blk s H0 scope (compEnvC scope cl C X.env) fp) e σ H Q
/-- what the turns give: some (some y): y; some none: left out -/
def Turns (X : Cx) (scope : Scope) (own : List Nat) (elt : Expr) (ifs : List Expr) (tt : TT) (g : TG) (δ : DE) (d : PyData) (o : Option PyData) : Prop :=
  ∃ δ1, (∀ (v : V) (σ : L2.St) (H G : Hp) (Q : L2.St → Hp → Prop), Ex G H → En X.K G σ (wipeD δ own) → Rp X.K G v d → (∀ σ' H' G', Vx H G H' G' → En X.K G' σ' δ1 → L2.wipe σ' own = L2.wipe σ own → Q σ' H') → L2.wipe σ own = σ → g v σ H Q) ∧
    (∀ (σ : L2.St) (H G : Hp) (Q : Bool → Hp → Prop), Ex G H → En X.K G σ δ1 → (∀ H2 G2, Vx H G H2 G2 → Q o.isSome H2) → tt σ H Q) ∧
    ∀ y, o = some y → ∀ (s : Shared) (H0 : Hp) (C : Addr) (cl : List (Str × Addr)) (fp : List Addr), Ey (X.blk s H0 scope (compEnvC scope cl C X.env) fp) elt δ1 (.d y)
theorem wipe_idem {σ : L2.St} : ∀ vs : List Nat, L2.wipe (L2.wipe σ vs) vs = L2.wipe σ vs := by
  have comm : ∀ (vs : List Nat) (σ : L2.St) (v : Nat), L2.wipe (σ.set v none) vs = (L2.wipe σ vs).set v none := fun vs => by
    induction vs with
    | nil => intro σ v; rfl
    | cons a vs ih =>
      intro σ v
      show (L2.wipe (σ.set v none) vs).set a none = ((L2.wipe σ vs).set a none).set v none
      rw [ih]
      by_cases z : a = v
      · subst z; rfl
      · rw [List.set_comm _ _ (Ne.symm z)]
  intro vs
  induction vs with
  | nil => rfl
  | cons a vs ih =>
    show (L2.wipe ((L2.wipe σ vs).set a none) vs).set a none = (L2.wipe σ vs).set a none
    rw [comm, ih, List.set_set]
theorem lc_run {X : Cx} {scope : Scope} {own : List Nat} {elt : Expr} {ifs : List Expr} {tt : TT} {g : TG} {wi : TI} {δ : DE} {ds : List PyData} (os : List (Option PyData)) (hlen : os.length = ds.length) (hz : ds.length ≤ 10000)
    (hw : ∀ (σ : L2.St) (H G : Hp) (R : It → Hp → Prop), Ex G H → En X.K G σ δ → (∀ J H1 G1, Vx H G H1 G1 → ItOk X.K J G1 ds → R J H1) → wi σ H R)
    (ht : ∀ (i : Nat) (d : PyData) (o : Option PyData), ds[i]? = some d → os[i]? = some o → Turns X scope own elt ifs tt g δ d o) (σ : L2.St) (H G : Hp) (Q : VK) (eg : Ex G H) (en : En X.K G σ δ)
    (q : ∀ p H2 G2, Vx H G H2 G2 → H p = none → G2 p = none → (∃ vs, H2 p = some (.lst vs) ∧ RpAll X.K G2 vs (os.filterMap id)) → Q (.ref p) H2) : tLc wi g tt (tB X scope elt) own σ H Q := by
  refine hw σ H G _ eg en fun J H1 G1 v1 ok D hD => ?_
  have hD0 : H D = none := v1.hh.back hD
  have vD : Vx H1 G1 (upd H1 D (.lst [])) G1 := Vx.mut v1.gh hD
  -- the state of a turn
  refine ⟨fun i m H' => m = ds.length - i ∧ i ≤ ds.length ∧ ∃ G' vs, Ex G1 G' ∧ Ex G' H' ∧ G' D = none ∧ Ex H1 H' ∧ (∀ a o, H1 a = some o → G1 a = none → G' a = none) ∧ H' D = some (.lst vs) ∧ RpAll X.K G' vs ((os.take i).filterMap id), ⟨ds.length, by omega, Nat.zero_le _, G1, [], Ex.refl G1, vD.gh, v1.gh.back hD, vD.hh, fun _ _ _ n => n, upd_same, by simpa using RpAll.nil⟩, ?_⟩
  rintro i m H' ⟨rfl, hi, G', vs, eG, eH, nD, eH1, nw, hDl, rA⟩
  by_cases hlt : i < ds.length
  · have hio : i < os.length := by omega
    refine .inr ⟨ok.go i _ H' G' eG eH (List.getElem?_eq_getElem hlt), fun H2 => (i + 1 ≤ ds.length ∧ ∃ G' vs, Ex G1 G' ∧ Ex G' H2 ∧ G' D = none ∧ Ex H1 H2 ∧ (∀ a o, H1 a = some o → G1 a = none → G' a = none) ∧ H2 D = some (.lst vs) ∧ RpAll X.K G' vs ((os.take (i + 1)).filterMap id)), fun H2 ⟨l, h⟩ => ⟨ds.length - (i + 1), by omega, rfl, l, h⟩, fun x H2 y => ?_⟩
    obtain ⟨G2, v2, r2⟩ := ok.yld i _ H' G' x H2 eG eH (List.getElem?_eq_getElem hlt) y
    obtain ⟨δ1, t1, t2, t3⟩ := ht i _ _ (List.getElem?_eq_getElem hlt) (List.getElem?_eq_getElem hio)
    have enw : En X.K G2 (L2.wipe σ own) (wipeD δ own) := (((en.mono v1.gg).mono eG).mono v2.gg).wipe own
    refine t1 x (L2.wipe σ own) H2 G2 _ v2.gh enw r2 (fun σ3 H3 G3 v3 e3 w3 => ⟨w3.trans (wipe_idem own), ?_⟩) (wipe_idem own)
    have w := v2.trans v3
    refine t2 σ3 H3 G3 _ v3.gh e3 fun H4 G4 v4 => ?_
    have w4 := w.trans v4
    have nD4 : G4 D = none := w4.nw D _ hDl nD
    have tk : os.take (i + 1) = os.take i ++ [os[i]] := by rw [List.take_append_getElem hio]
    cases ho : os[i] with
    | none =>
      show (if false = true then _ else _)
      rw [if_neg Bool.false_ne_true]
      refine ⟨by omega, G4, vs, eG.trans w4.gg, w4.gh, nD4, eH1.trans w4.hh, fun a o h n => w4.nw a o (eH1 a o h) (nw a o h n), w4.hh _ _ hDl, ?_⟩
      rw [tk, ho, List.filterMap_append]
      simpa using rA.mono w4.gg
    | some z =>
      show (if true = true then _ else _)
      rw [if_pos rfl]
      intro s H0 C cl fp
      refine t3 z ho s H0 C cl fp σ3 H4 G4 _ v4.gh (e3.mono v4.gg) fun u H5 G5 v5 o5 => ?_
      have w5 := w4.trans v5
      have o5' : Rp X.K G5 u z := o5
      have nD5 : G5 D = none := w5.nw D _ hDl nD
      have l1 := rA.length
      have l2 : ((os.take i).filterMap id).length ≤ i := by
        have a := List.length_filterMap_le id (os.take i)
        rw [List.length_take] at a
        omega
      refine ⟨vs, w5.hh _ _ hDl, Nat.lt_of_le_of_lt (show vs.length ≤ 10000 by omega) (by decide), by omega, G5, vs ++ [u], eG.trans w5.gg, ?_, nD5, ?_, fun a o h n => w5.nw a o (eH1 a o h) (nw a o h n), upd_same, ?_⟩
      · intro a u' q'
        rw [upd_ne (ne_of_none q' nD5)]
        exact w5.gh a u' q'
      · intro a u' q'
        rw [upd_ne (ne_of_none q' hD)]
        exact (eH1.trans w5.hh) a u' q'
      · rw [tk, ho, List.filterMap_append]
        exact (rA.mono w5.gg).append (.cons o5' .nil)
  · have e : i = ds.length := by omega
    subst e
    refine .inl ⟨ok.stop _ H' G' eG eH (Nat.le_refl _), q D H' G' ⟨v1.hh.trans eH1, v1.gg.trans eG, eH, fun a o h n => nw a o (v1.hh a o h) (v1.nw a o h n)⟩ hD0 nD ⟨vs, hDl, ?_⟩⟩
    rw [← hlen, List.take_length] at rA
    exact rA
/-- a list that is done with changing joins what stays -/
theorem settle {K : PySem.W.Frag} {H G H2 G2 : Hp} {p : Addr} {vs : List V} {ds : List PyData} (v : Vx H G H2 G2) (hp : H p = none) (np : G2 p = none) (h2 : H2 p = some (.lst vs)) (r : RpAll K G2 vs ds) : ∃ G3, Vx H G H2 G3 ∧ Rp K G3 (.ref p) (.list ds) := by
  have e : Ex G2 (upd G2 p (.lst vs)) := Ex.new np
  refine ⟨upd G2 p (.lst vs), ⟨v.hh, v.gg.trans e, fun a o q => ?_, fun a o h n => ?_⟩, .lst upd_same (r.mono e)⟩
  · by_cases z : a = p
    · rw [z, upd_same] at q
      rw [z, h2]
      exact q
    · rw [upd_ne z] at q
      exact v.gh a o q
  · rw [upd_ne (ne_of_none h hp)]
    exact v.nw a o h n
theorem y_lc {elt tg iter : Expr} {ifs : List Expr} {scope : Scope} {own : List (Str × Nat)} {ds : List PyData} (g : TG) (tt : TT) (os : List (Option PyData)) (hc : X.calm = true) (hN : X.N.Nodup) (hi : Iy X tg iter δ ds) (ok : BlkOk X.N X.env.scope scope own)
    (hg : ∀ (s : Shared) (H : Hp) (C : Addr) (cl : List (Str × Addr)) (fp : List Addr), PG (X.blk s H scope (compEnvC scope cl C X.env) fp) tg g) (htt : ∀ (s : Shared) (H : Hp) (C : Addr) (cl : List (Str × Addr)) (fp : List Addr), PTs (X.blk s H scope (compEnvC scope cl C X.env) fp) ifs tt)
    (hlen : os.length = ds.length) (hz : ds.length ≤ 10000) (ht : ∀ (i : Nat) (d : PyData) (o : Option PyData), ds[i]? = some d → os[i]? = some o → Turns X scope (own.map (·.2)) elt ifs tt g δ d o)
    (hs : ∀ x, foldedSetIterable iter X.env x = pure x := by intro _; rfl) : Ey X (.ListComp elt [⟨tg, iter, ifs, 0⟩] scope pos) δ (.d (.list (os.filterMap id))) := fun σ H G Q eg en q => by
  obtain ⟨wi, hwi, hw⟩ := hi
  refine leE (pe_lc (te := tB X scope elt) hc hN hwi ok hg htt (fun s H0 C cl fp => ⟨fun pins s2 σ H Q I h => h s H0 C cl fp pins s2 I⟩) hs) (lc_run os hlen hz hw ht σ H G Q eg en fun p H2 G2 v hp np ⟨vs, h2, r⟩ => ?_)
  obtain ⟨G3, v3, r3⟩ := settle v hp np h2 r
  exact q _ H2 G3 v3 r3
/-- name = [..] -/
theorem s_lc {elt tg iter : Expr} {ifs : List Expr} {scope : Scope} {own : List (Str × Nat)} {ds : List PyData} {i : Nat} {y : Str} {py spos : Pos} (g : TG) (tt : TT) (os : List (Option PyData)) (hc : X.calm = true) (hN : X.N.Nodup) (hy : X.N[i]? = some y) (hyl : X.env.scope.names.lookup y = some .local)
    (hsw : swapsWith (.ListComp elt [⟨tg, iter, ifs, 0⟩] scope pos) (some (.Name y py)) spos.line X.env = pure true) (hi : Iy X tg iter δ ds) (ok : BlkOk X.N X.env.scope scope own)
    (hg : ∀ (s : Shared) (H : Hp) (C : Addr) (cl : List (Str × Addr)) (fp : List Addr), PG (X.blk s H scope (compEnvC scope cl C X.env) fp) tg g) (htt : ∀ (s : Shared) (H : Hp) (C : Addr) (cl : List (Str × Addr)) (fp : List Addr), PTs (X.blk s H scope (compEnvC scope cl C X.env) fp) ifs tt)
    (hlen : os.length = ds.length) (hz : ds.length ≤ 10000) (ht : ∀ (i : Nat) (d : PyData) (o : Option PyData), ds[i]? = some d → os[i]? = some o → Turns X scope (own.map (·.2)) elt ifs tt g δ d o)
    (q : P.nx (δ.set i (some (.d (.list (os.filterMap id)))))) (hs : ∀ x, foldedSetIterable iter X.env x = pure x := by intro _; rfl) : S1 X (.Assign [.Name y py] (.ListComp elt [⟨tg, iter, ifs, 0⟩] scope pos) spos) δ P := fun σ H G D eg en m => by
  obtain ⟨wi, hwi, hw⟩ := hi
  refine leS (ps_setLc (te := tB X scope elt) hc hN hy hyl hsw hwi ok hg htt (fun s H0 C cl fp => ⟨fun pins s2 σ H Q I h => h s H0 C cl fp pins s2 I⟩) hs) (lc_run os hlen hz hw ht σ H G _ eg en fun p H2 G2 v hp np ⟨vs, h2, r⟩ => ?_)
  obtain ⟨G3, v3, r3⟩ := settle v hp np h2 r
  exact m.nx _ H2 G3 _ v3 ((en.mono v3.gg).set (c := .d (.list (os.filterMap id))) i r3) q
/-- one name, no test -/
theorem turns_name {scope : Scope} {j : Nat} {elt : Expr} {ifs : List Expr} {d y : PyData} (hj : j < δ.length) (h : ∀ (s : Shared) (H0 : Hp) (C : Addr) (cl : List (Str × Addr)) (fp : List Addr), Ey (X.blk s H0 scope (compEnvC scope cl C X.env) fp) elt (δ.set j (some (.d d))) (.d y)) : Turns X scope [j] elt ifs tYes (gName j) δ d (some y) := by
  refine ⟨δ.set j (some (.d d)), fun v σ H G Q eg en r q hw => ?_, fun σ H G Q eg en q => q H G (Vx.refl eg), fun y' e => ?_⟩
  · refine q _ H G (Vx.refl eg) ?_ ?_
    · have := en.set (c := .d d) j r
      have e : (wipeD δ [j]).set j (some (.d d)) = δ.set j (some (.d d)) := by
        show ((δ.set j none).set j (some (.d d))) = _
        rw [List.set_set]
      rw [e] at this
      exact this
    · show (σ.set j (some v)).set j none = σ.set j none
      rw [List.set_set]
  · cases e
    exact h
/-- one name, a test -/
theorem turns_nameT {scope : Scope} {j : Nat} {elt t : Expr} {d : PyData} {o : Option PyData} (hj : j < δ.length)
    (ht : ∀ (s : Shared) (H0 : Hp) (C : Addr) (cl : List (Str × Addr)) (fp : List Addr), Ty (X.blk s H0 scope (compEnvC scope cl C X.env) fp) t (δ.set j (some (.d d))) o.isSome)
    (h : ∀ y, o = some y → ∀ (s : Shared) (H0 : Hp) (C : Addr) (cl : List (Str × Addr)) (fp : List Addr), Ey (X.blk s H0 scope (compEnvC scope cl C X.env) fp) elt (δ.set j (some (.d d))) (.d y)) : Turns X scope [j] elt [t] (tBT X scope t) (gName j) δ d o := by
  refine ⟨δ.set j (some (.d d)), fun v σ H G Q eg en r q hw => ?_, fun σ H G Q eg en q => ?_, h⟩
  · refine q _ H G (Vx.refl eg) ?_ ?_
    · have := en.set (c := .d d) j r
      have e : (wipeD δ [j]).set j (some (.d d)) = δ.set j (some (.d d)) := by
        show ((δ.set j none).set j (some (.d d))) = _
        rw [List.set_set]
      rw [e] at this
      exact this
    · show (σ.set j (some v)).set j none = σ.set j none
      rw [List.set_set]
  · intro s H0 C cl fp
    exact ht s H0 C cl fp σ H G Q eg en q
/-- two names -/
theorem turns_pair {scope : Scope} {j1 j2 : Nat} {elt : Expr} {ifs : List Expr} {d1 d2 : PyData} {o : Option PyData} {tt : TT} (hj : j1 ≠ j2)
    (ht : ∀ (σ : L2.St) (H G : Hp) (Q : Bool → Hp → Prop), Ex G H → En X.K G σ ((δ.set j1 (some (.d d1))).set j2 (some (.d d2))) → (∀ H2 G2, Vx H G H2 G2 → Q o.isSome H2) → tt σ H Q)
    (h : ∀ y, o = some y → ∀ (s : Shared) (H0 : Hp) (C : Addr) (cl : List (Str × Addr)) (fp : List Addr), Ey (X.blk s H0 scope (compEnvC scope cl C X.env) fp) elt ((δ.set j1 (some (.d d1))).set j2 (some (.d d2))) (.d y)) : Turns X scope [j1, j2] elt ifs tt (gTup X.K 2 (gCons (gName j1) (gCons (gName j2) gNil))) δ (.tuple [d1, d2]) o := by
  refine ⟨(δ.set j1 (some (.d d1))).set j2 (some (.d d2)), fun v σ H G Q eg en r q hw => ?_, ht, h⟩
  cases r with
  | tup ht r =>
    cases r with
    | cons r1 r2 =>
      cases r2 with
      | cons r2 r3 =>
        cases r3
        refine ⟨_, _, rfl, ex_t eg ht, rfl, _, _, rfl, _, _, rfl, rfl, q _ H G (Vx.refl eg) ?_ ?_⟩
        · have e1 := (en.set (c := .d d1) j1 r1).set (c := .d d2) j2 r2
          have e : ((wipeD δ [j1, j2]).set j1 (some (.d d1))).set j2 (some (.d d2)) = (δ.set j1 (some (.d d1))).set j2 (some (.d d2)) := by
            show ((((δ.set j2 none).set j1 none).set j1 (some (.d d1))).set j2 (some (.d d2))) = _
            rw [List.set_set, List.set_comm _ _ (Ne.symm hj), List.set_set]
          rw [e] at e1
          exact e1
        · show (((σ.set j1 _).set j2 _).set j2 none).set j1 none = (σ.set j2 none).set j1 none
          rw [List.set_set, List.set_comm _ _ hj, List.set_set]
end
end KW
set_option linter.all false
set_option maxRecDepth 100000
set_option maxHeartbeats 4000000
/-! operations on data -/
namespace KW
open PySem PySem.Spec PyProof.Rows L2
section
variable {X : Cx} {δ δ' : DE} {a b e : Expr} {es : List Expr} {c : Cl} {pos : Pos}
theorem o_ints {f : Value → Value → Sem Value} {C : Int → Int → Prop} {g : Int → Int → V} {i j : Int} {d : PyData} (h : OpR X f (rI C g)) (hc : C i j) (hr : ∀ G, Rp X.K G (g i j) d) : Oy X f (.d (.int i)) (.d (.int j)) (.d d) :=
  ⟨_, h, fun x y H G Q eg o1 o2 q => by
    have o1' : Rp X.K G x (.int i) := o1
    have o2' : Rp X.K G y (.int j) := o2
    cases o1'
    cases o2'
    exact ⟨i, j, rfl, rfl, hc, q _ H G (Vx.refl eg) (hr G)⟩⟩
theorem o_ints0 {f : Value → Value → Sem Value} {g : Int → Int → V} {i j : Int} {d : PyData} (h : OpR X f (rI0 g)) (hr : ∀ G, Rp X.K G (g i j) d) : Oy X f (.d (.int i)) (.d (.int j)) (.d d) :=
  ⟨_, h, fun x y H G Q eg o1 o2 q => by
    have o1' : Rp X.K G x (.int i) := o1
    have o2' : Rp X.K G y (.int j) := o2
    cases o1'
    cases o2'
    exact ⟨i, j, rfl, rfl, q _ H G (Vx.refl eg) (hr G)⟩⟩
theorem o_add {i j : Int} : Oy X (binaryOp .Add) (.d (.int i)) (.d (.int j)) (.d (.int (i + j))) := o_ints0 op_add fun _ => .int _
theorem o_sub {i j : Int} : Oy X (binaryOp .Sub) (.d (.int i)) (.d (.int j)) (.d (.int (i - j))) := o_ints0 op_sub fun _ => .int _
theorem o_mul {i j : Int} (h : CMulW i j) : Oy X (binaryOp .Mult) (.d (.int i)) (.d (.int j)) (.d (.int (i * j))) := o_ints op_mulW h fun _ => .int _
theorem o_mod {i j : Int} (h : 0 < j) : Oy X (binaryOp .Mod) (.d (.int i)) (.d (.int j)) (.d (.int (i % j))) := o_ints op_mod h fun _ => .int _
/-- a floor where the quotient is no great one -/
def CDivA (i j : Int) : Prop := 0 < j ∧ (j.natAbs.log2 < 9000 ∨ i.natAbs.log2 < j.natAbs.log2 + 4000)
theorem noPy_of {i j : Int} (h : CDivA i j) : Builtin.divisionGoesByPylong i j = false := by
  rcases h.2 with h1 | h1
  · exact PyProof.noPylong_of_log2 h1
  · have hj : j ≠ 0 := by have := h.1; omega
    have e2 : (j == 0) = false := by simpa using hj
    by_cases hi : i = 0
    · have e1 : (i == 0) = true := by simpa using hi
      unfold Builtin.divisionGoesByPylong
      simp only [e1, e2]
      simp
    · have e1 : (i == 0) = false := by simpa using hi
      unfold Builtin.divisionGoesByPylong
      simp only [e1, e2]
      simp
      omega
theorem op_fdivA : OpR X (binaryOp .FloorDiv) (rI CDivA fun i j => .int (i / j)) := opI fun i j _ _ _ _ _ hc q => by
  have h1 : (0 : Int) < j := hc.1
  exact floordiv_int (by omega) (by rw [Int.fdiv_eq_ediv_of_nonneg i (by omega)]; exact q) (.inl (noPy_of hc))
theorem o_fdiv {i j : Int} (h : CDivA i j) : Oy X (binaryOp .FloorDiv) (.d (.int i)) (.d (.int j)) (.d (.int (i / j))) := o_ints op_fdivA h fun _ => .int _
theorem op_powA : OpR X (binaryOp .Pow) (rI (fun i j => 0 ≤ j ∧ (Builtin.Int.intBits i : Int) * j ≤ 2 ^ 27) fun i j => .int (i ^ j.toNat)) := opI fun _ _ _ _ _ _ _ hc q => pow_int hc.1 hc.2 q
theorem o_pow {i j : Int} (h : 0 ≤ j ∧ (Builtin.Int.intBits i : Int) * j ≤ 2 ^ 27) : Oy X (binaryOp .Pow) (.d (.int i)) (.d (.int j)) (.d (.int (i ^ j.toNat))) := o_ints op_powA h fun _ => .int _
theorem o_lt {i j : Int} : Oy X (compareOp .Lt) (.d (.int i)) (.d (.int j)) (.d (.bool (decide (i < j)))) := o_ints0 op_lt fun _ => .bl _
theorem o_le {i j : Int} : Oy X (compareOp .LtE) (.d (.int i)) (.d (.int j)) (.d (.bool (decide (i ≤ j)))) := o_ints0 op_le fun _ => .bl _
theorem o_gt {i j : Int} : Oy X (compareOp .Gt) (.d (.int i)) (.d (.int j)) (.d (.bool (decide (j < i)))) := o_ints0 op_gt fun _ => .bl _
theorem o_ge {i j : Int} : Oy X (compareOp .GtE) (.d (.int i)) (.d (.int j)) (.d (.bool (decide (j ≤ i)))) := o_ints0 op_ge fun _ => .bl _
theorem o_eqI {i j : Int} : Oy X (compareOp .Eq) (.d (.int i)) (.d (.int j)) (.d (.bool (decide (i = j)))) := ⟨_, op_eq, fun x y H G Q eg o1 o2 q => by
  have o1' : Rp X.K G x (.int i) := o1
  have o2' : Rp X.K G y (.int j) := o2
  cases o1'
  cases o2'
  refine ⟨rfl, ?_⟩
  have e : decide (V.int i = V.int j) = decide (i = j) := by
    by_cases z : i = j
    · rw [z]; simp
    · rw [decide_eq_false z, decide_eq_false fun q => z (V.int.inj q)]
  rw [e]
  exact q _ H G (Vx.refl eg) (.bl _)⟩
theorem o_neI {i j : Int} : Oy X (compareOp .NotEq) (.d (.int i)) (.d (.int j)) (.d (.bool (!decide (i = j)))) := ⟨_, op_ne, fun x y H G Q eg o1 o2 q => by
  have o1' : Rp X.K G x (.int i) := o1
  have o2' : Rp X.K G y (.int j) := o2
  cases o1'
  cases o2'
  refine ⟨rfl, ?_⟩
  have e : decide (V.int i = V.int j) = decide (i = j) := by
    by_cases z : i = j
    · rw [z]; simp
    · rw [decide_eq_false z, decide_eq_false fun q => z (V.int.inj q)]
  rw [e]
  exact q _ H G (Vx.refl eg) (.bl _)⟩
theorem o_neS {i j : Str} : Oy X (compareOp .NotEq) (.d (.str i)) (.d (.str j)) (.d (.bool (!decide (i = j)))) := ⟨_, op_ne, fun x y H G Q eg o1 o2 q => by
  have o1' : Rp X.K G x (.str i) := o1
  have o2' : Rp X.K G y (.str j) := o2
  cases o1'
  cases o2'
  refine ⟨rfl, ?_⟩
  have e : decide (V.str i = V.str j) = decide (i = j) := by
    by_cases z : i = j
    · rw [z]; simp
    · rw [decide_eq_false z, decide_eq_false fun q => z (V.str.inj q)]
  rw [e]
  exact q _ H G (Vx.refl eg) (.bl _)⟩
theorem o_neB {i j : Bool} : Oy X (compareOp .NotEq) (.d (.bool i)) (.d (.bool j)) (.d (.bool (!decide (i = j)))) := ⟨_, op_ne, fun x y H G Q eg o1 o2 q => by
  have o1' : Rp X.K G x (.bool i) := o1
  have o2' : Rp X.K G y (.bool j) := o2
  cases o1'
  cases o2'
  refine ⟨rfl, ?_⟩
  have e : decide (V.bl i = V.bl j) = decide (i = j) := by cases i <;> cases j <;> decide
  rw [e]
  exact q _ H G (Vx.refl eg) (.bl _)⟩
/-- data at any depth -/
theorem o_eqD {d e : PyData} (hu : X.A.units + 64 < cLine) (h1 : SeqAt.shaped d = true) (h2 : SeqAt.shaped e = true) : Oy X (compareOp .Eq) (.d d) (.d e) (.d (.bool (PyData.eqv d e))) := ⟨_, op_eqD hu, fun x y H G Q eg o1 o2 q =>
  ⟨d, e, (Rp.mono eg o1).dp, (Rp.mono eg o2).dp, h1, h2, q _ H G (Vx.refl eg) (.bl _)⟩⟩
theorem o_neD {d e : PyData} (hu : X.A.units + 64 < cLine) (h1 : SeqAt.shaped d = true) (h2 : SeqAt.shaped e = true) : Oy X (compareOp .NotEq) (.d d) (.d e) (.d (.bool (!PyData.eqv d e))) := ⟨_, op_neD hu, fun x y H G Q eg o1 o2 q =>
  ⟨d, e, (Rp.mono eg o1).dp, (Rp.mono eg o2).dp, h1, h2, q _ H G (Vx.refl eg) (.bl _)⟩⟩
theorem o_inD {d : PyData} {ds : List PyData} (hu : X.A.units + 65 < cLine) (h1 : SeqAt.shaped d = true) (h2 : SeqAt.shaped (.list ds) = true) : Oy X (compareOp .In) (.d d) (.d (.list ds)) (.d (.bool (ds.any fun z => PyData.eqv z d))) := ⟨_, op_inD hu, fun x y H G Q eg o1 o2 q =>
  ⟨d, ds, (Rp.mono eg o1).dp, (Rp.mono eg o2).dp, h1, h2, q _ H G (Vx.refl eg) (.bl _)⟩⟩
theorem o_isN {d : PyData} : Oy X (compareOp .Is) (.d d) (.d .none) (.d (.bool (match d with | .none => true | _ => false))) := ⟨_, op_isN, fun x y H G Q eg o1 o2 q => by
  have o2' : Rp X.K G y .none := o2
  have o1' : Rp X.K G x d := o1
  cases o2'
  refine ⟨rfl, q _ H G (Vx.refl eg) ?_⟩
  cases o1' <;> exact .bl _⟩
theorem o_notN {d : PyData} : Oy X (compareOp .IsNot) (.d d) (.d .none) (.d (.bool (match d with | .none => false | _ => true))) := ⟨_, op_notN, fun x y H G Q eg o1 o2 q => by
  have o2' : Rp X.K G y .none := o2
  have o1' : Rp X.K G x d := o1
  cases o2'
  refine ⟨rfl, q _ H G (Vx.refl eg) ?_⟩
  cases o1' <;> exact .bl _⟩
theorem o_notB {i j : Bool} : Oy X (compareOp .IsNot) (.d (.bool i)) (.d (.bool j)) (.d (.bool (!decide (i = j)))) := ⟨_, op_notBl, fun x y H G Q eg o1 o2 q => by
  have o1' : Rp X.K G x (.bool i) := o1
  have o2' : Rp X.K G y (.bool j) := o2
  cases o1'
  cases o2'
  exact ⟨_, _, rfl, rfl, q _ H G (Vx.refl eg) (.bl _)⟩⟩
/-- lists -/
theorem o_catL {ds es : List PyData} (hz : ds.length + es.length ≤ 1000) : Oy X (binaryOp .Add) (.d (.list ds)) (.d (.list es)) (.d (.list (ds ++ es))) := ⟨_, op_cat, fun x y H G Q eg o1 o2 q => by
  have o1' : Rp X.K G x (.list ds) := o1
  have o2' : Rp X.K G y (.list es) := o2
  cases o1' with
  | lst h1 r1 =>
    cases o2' with
    | lst h2 r2 =>
      refine ⟨_, _, _, _, rfl, rfl, eg _ _ h1, eg _ _ h2, by rw [r1.length, r2.length]; exact Nat.le_of_lt (small1000 hz), fun p hp => ?_⟩
      exact q _ _ _ (Vx.new eg hp) (Rp.lst upd_same ((r1.append r2).mono (Vx.new eg hp).gg))⟩
theorem rpAll_rep {K : PySem.W.Frag} {G : Hp} {vs : List V} {ds : List PyData} (r : RpAll K G vs ds) : ∀ k : Nat, RpAll K G (List.replicate k vs).flatten (List.replicate k ds).flatten
  | 0 => .nil
  | k + 1 => by
    rw [List.replicate_succ, List.replicate_succ, List.flatten_cons, List.flatten_cons]
    exact r.append (rpAll_rep r k)
theorem o_repL {ds : List PyData} {k : Int} (hk : 0 ≤ k ∧ k ≤ 1000) (hz : ds.length ≤ 1000) : Oy X (binaryOp .Mult) (.d (.list ds)) (.d (.int k)) (.d (.list (List.replicate k.toNat ds).flatten)) := ⟨_, op_rep, fun x y H G Q eg o1 o2 q => by
  have o1' : Rp X.K G x (.list ds) := o1
  have o2' : Rp X.K G y (.int k) := o2
  cases o2'
  cases o1' with
  | lst h1 r1 =>
    refine ⟨_, _, _, rfl, rfl, eg _ _ h1, by omega, by omega, ?_, fun p hp => ?_⟩
    · rw [r1.length]
      have : ds.length * k.toNat ≤ 1000 * 1000 := Nat.mul_le_mul hz (by omega)
      exact Nat.le_trans this (by decide)
    · exact q _ _ _ (Vx.new eg hp) (Rp.lst upd_same ((rpAll_rep r1 _).mono (Vx.new eg hp).gg))⟩
/-- tuples -/
theorem o_catT {ds es : List PyData} (hz : ds.length + es.length ≤ 1000) : Oy X (binaryOp .Add) (.d (.tuple ds)) (.d (.tuple es)) (.d (.tuple (ds ++ es))) := ⟨_, op_catA, fun x y H G Q eg o1 o2 q => by
  have o1' : Rp X.K G x (.tuple ds) := o1
  have o2' : Rp X.K G y (.tuple es) := o2
  cases o1' with
  | tup h1 r1 =>
    cases o2' with
    | tup h2 r2 =>
      refine ⟨_, _, _, _, rfl, rfl, ex_t eg h1, ex_t eg h2, by rw [r1.length, r2.length]; exact Nat.le_of_lt (small1000 hz), fun e => ?_, fun _ e => ?_, fun _ _ p hp => ?_⟩
      · subst e
        cases r1
        exact q _ H G (Vx.refl eg) (Rp.tup h2 r2)
      · subst e
        cases r2
        rw [List.append_nil] at q
        exact q _ H G (Vx.refl eg) (Rp.tup h1 r1)
      · exact q _ _ _ (Vx.new eg hp) (Rp.tup (SqT.of upd_same) ((r1.append r2).mono (Vx.new eg hp).gg))⟩
/-- subscripts -/
theorem x_tup {ds : List PyData} {i : Int} {d : PyData} (h : atI ds i = some d) : Xy X (.d (.tuple ds)) (.d (.int i)) (.d d) := ⟨_, ix_tup, fun x y H G Q eg o1 o2 q => by
  have o1' : Rp X.K G x (.tuple ds) := o1
  have o2' : Rp X.K G y (.int i) := o2
  cases o2'
  cases o1' with
  | tup h1 r1 =>
    obtain ⟨j, e1, e2, _⟩ := atI_get h
    obtain ⟨v, ev, rv⟩ := r1.get e2
    refine ⟨_, _, _, v, rfl, rfl, ex_t eg h1, ?_, q v H G (Vx.refl eg) rv⟩
    unfold atI at h ⊢
    rw [r1.length]
    cases hx : ixN ds.length i with
    | none => rw [hx] at h; cases h
    | some j' =>
      rw [hx] at h
      have h' : ds[j']? = some d := h
      have : j' = j := by
        have a := (ixN_seq hx).1
        rw [e1] at a
        exact (Option.some.inj a).symm
      show _ = _
      rw [this]
      exact ev⟩
theorem x_lst {ds : List PyData} {i : Int} {d : PyData} (h : atI ds i = some d) : Xy X (.d (.list ds)) (.d (.int i)) (.d d) := ⟨_, ix_list, fun x y H G Q eg o1 o2 q => by
  have o1' : Rp X.K G x (.list ds) := o1
  have o2' : Rp X.K G y (.int i) := o2
  cases o2'
  cases o1' with
  | lst h1 r1 =>
    obtain ⟨j, e1, e2, _⟩ := atI_get h
    obtain ⟨v, ev, rv⟩ := r1.get e2
    refine ⟨_, _, _, v, rfl, rfl, SqL.of (eg _ _ h1), ?_, q v H G (Vx.refl eg) rv⟩
    unfold atI at h ⊢
    rw [r1.length]
    cases hx : ixN ds.length i with
    | none => rw [hx] at h; cases h
    | some j' =>
      rw [hx] at h
      have h' : ds[j']? = some d := h
      have : j' = j := by
        have a := (ixN_seq hx).1
        rw [e1] at a
        exact (Option.some.inj a).symm
      show _ = _
      rw [this]
      exact ev⟩
/-- slices -/
def cutD (ds : List PyData) (lo hi : Option Int) : List PyData := (ds.drop (HT.sIx ds.length 0 lo)).take (HT.sIx ds.length ds.length hi - HT.sIx ds.length 0 lo)
def Py (X : Cx) (e : Option Expr) (δ : DE) (o : Option Int) : Prop := ∃ t : TO, PO X e t ∧ ∀ (σ : L2.St) (H G : Hp) (Q : Option Int → Hp → Prop), Ex G H → En X.K G σ δ → (∀ H2 G2, Vx H G H2 G2 → Q o H2) → t σ H Q
theorem p_none : Py X none δ none := ⟨_, po_none, fun σ H G Q eg en q => q H G (Vx.refl eg)⟩
theorem p_some {i : Int} (h : Ey X e δ (.d (.int i))) : Py X (some e) δ (some i) := ⟨_, po_some peW, fun σ H G Q eg en q => h σ H G _ eg en fun v H1 G1 v1 o1 => by
  have o1' : Rp X.K G1 v (.int i) := o1
  cases o1'
  exact ⟨i, rfl, q H1 G1 v1⟩⟩
theorem cut_rp {K : PySem.W.Frag} {G : Hp} {vs : List V} {ds : List PyData} (r : RpAll K G vs ds) (lo hi : Option Int) : RpAll K G (cutV vs lo hi) (cutD ds lo hi) := by
  unfold cutV cutD
  rw [r.length]
  exact (r.drop _).take _
theorem y_cutL {ds : List PyData} {lo hi : Option Expr} {l u : Option Int} {p2 : Pos} (h : Ey X e δ (.d (.list ds))) (hl : Py X lo δ l) (hu : Py X hi δ u) : Ey X (.Subscript e (.Slice lo hi none p2) pos) δ (.d (.list (cutD ds l u))) := fun σ H G Q eg en q => by
  obtain ⟨tl, pl, ql⟩ := hl
  obtain ⟨tu, pu, qu⟩ := hu
  refine leE (pe_slice sl_list peW pl pu) (h σ H G _ eg en fun v H1 G1 v1 o1 => ql σ H1 G1 _ v1.gh (en.mono v1.gg) fun H2 G2 v2 => qu σ H2 G2 _ v2.gh ((en.mono v1.gg).mono v2.gg) fun H3 G3 v3 => ?_)
  have o : Rp X.K G3 v (.list ds) := Rp.mono v3.gg (Rp.mono v2.gg o1)
  cases o with
  | lst hp r =>
    refine ⟨_, _, rfl, SqL.of (v3.gh _ _ hp), fun p hp2 => ?_⟩
    exact q _ _ _ (((v1.trans v2).trans v3).trans (Vx.new v3.gh hp2)) (Rp.lst upd_same ((cut_rp r l u).mono (Vx.new v3.gh hp2).gg))
theorem y_cutT {ds : List PyData} {lo hi : Option Expr} {l u : Option Int} {p2 : Pos} (h : Ey X e δ (.d (.tuple ds))) (hl : Py X lo δ l) (hu : Py X hi δ u) : Ey X (.Subscript e (.Slice lo hi none p2) pos) δ (.d (.tuple (cutD ds l u))) := fun σ H G Q eg en q => by
  obtain ⟨tl, pl, ql⟩ := hl
  obtain ⟨tu, pu, qu⟩ := hu
  refine leE (pe_slice sl_tupA peW pl pu) (h σ H G _ eg en fun v H1 G1 v1 o1 => ql σ H1 G1 _ v1.gh (en.mono v1.gg) fun H2 G2 v2 => qu σ H2 G2 _ v2.gh ((en.mono v1.gg).mono v2.gg) fun H3 G3 v3 => ?_)
  have o : Rp X.K G3 v (.tuple ds) := Rp.mono v3.gg (Rp.mono v2.gg o1)
  cases o with
  | tup hp r =>
    refine ⟨_, _, rfl, ex_t v3.gh hp, fun hw => ?_, fun _ p hp2 => ?_⟩
    · have e1 : cutD ds l u = ds := by
        unfold cutD
        rw [r.length] at hw
        rw [hw.1, hw.2, List.drop_zero, Nat.sub_zero, List.take_length]
      rw [e1] at q
      exact q _ _ _ ((v1.trans v2).trans v3) (Rp.tup hp r)
    · exact q _ _ _ (((v1.trans v2).trans v3).trans (Vx.new v3.gh hp2)) (Rp.tup (SqT.of upd_same) ((cut_rp r l u).mono (Vx.new v3.gh hp2).gg))
/-- built-ins -/
theorem c_lenL {ds : List PyData} : Cy X (.builtin "len") [.d (.list ds)] (.d (.int (ds.length : Nat))) := ⟨_, call_len_seq, fun vs H G Q eg o q => by
  cases o with
  | cons o r =>
    cases r
    have o' : Rp X.K G _ (.list ds) := o
    cases o' with
    | lst hp r => exact ⟨_, _, rfl, .inl (SqL.of (eg _ _ hp)), by rw [r.length]; exact q _ H G (Vx.refl eg) (.int _)⟩⟩
theorem c_lenT {ds : List PyData} : Cy X (.builtin "len") [.d (.tuple ds)] (.d (.int (ds.length : Nat))) := ⟨_, call_len_seq, fun vs H G Q eg o q => by
  cases o with
  | cons o r =>
    cases r
    have o' : Rp X.K G _ (.tuple ds) := o
    cases o' with
    | tup hp r => exact ⟨_, _, rfl, .inr (ex_t eg hp), by rw [r.length]; exact q _ H G (Vx.refl eg) (.int _)⟩⟩
theorem c_tupL {ds : List PyData} : Cy X (.type "tuple") [.d (.list ds)] (.d (.tuple ds)) := ⟨_, call_tuple_of, fun vs H G Q eg o q => by
  cases o with
  | cons o r =>
    cases r
    have o' : Rp X.K G _ (.list ds) := o
    cases o' with
    | lst hp r =>
      refine ⟨_, _, rfl, .inl ⟨SqL.of (eg _ _ hp), fun p hp2 => ?_⟩⟩
      exact q _ _ _ (Vx.new eg hp2) (Rp.tup (SqT.of upd_same) (r.mono (Vx.new eg hp2).gg))⟩
theorem c_abs {i : Int} : Cy X (.builtin "abs") [.d (.int i)] (.d (.int (if i < 0 then -i else i))) := ⟨_, call_abs, fun vs H G Q eg o q => by
  cases o with
  | cons o r =>
    cases r
    have o' : Rp X.K G _ (.int i) := o
    cases o'
    exact ⟨_, rfl, q _ H G (Vx.refl eg) (.int _)⟩⟩
theorem c_int {i : Int} : Cy X (.type "int") [.d (.int i)] (.d (.int i)) := ⟨_, call_int1, fun vs H G Q eg o q => by
  cases o with
  | cons o r =>
    cases r
    have o' : Rp X.K G _ (.int i) := o
    cases o'
    exact .inl ⟨_, rfl, q _ H G (Vx.refl eg) (.int _)⟩⟩
theorem c_intB {k : Bool} : Cy X (.type "int") [.d (.bool k)] (.d (.int (if k then 1 else 0))) := ⟨_, call_int1, fun vs H G Q eg o q => by
  cases o with
  | cons o r =>
    cases r
    have o' : Rp X.K G _ (.bool k) := o
    cases o'
    exact .inr ⟨_, rfl, q _ H G (Vx.refl eg) (.int _)⟩⟩
theorem c_min2 {i j : Int} (hc : X.calm = true) : Cy X (.builtin "min") [.d (.int i), .d (.int j)] (.d (.int (if j < i then j else i))) := ⟨_, call_min2 hc, fun vs H G Q eg o q => by
  cases o with
  | cons o r =>
    cases r with
    | cons o2 r =>
      cases r
      have o' : Rp X.K G _ (.int i) := o
      have o2' : Rp X.K G _ (.int j) := o2
      cases o'
      cases o2'
      exact ⟨_, _, rfl, q _ H G (Vx.refl eg) (.int _)⟩⟩
theorem c_max2 {i j : Int} (hc : X.calm = true) : Cy X (.builtin "max") [.d (.int i), .d (.int j)] (.d (.int (if j > i then j else i))) := ⟨_, call_max2 hc, fun vs H G Q eg o q => by
  cases o with
  | cons o r =>
    cases r with
    | cons o2 r =>
      cases r
      have o' : Rp X.K G _ (.int i) := o
      have o2' : Rp X.K G _ (.int j) := o2
      cases o'
      cases o2'
      exact ⟨_, _, rfl, q _ H G (Vx.refl eg) (.int _)⟩⟩
theorem c_all {bs : List Bool} (hc : X.calm = true) : Cy X (.builtin "all") [.d (.list (bs.map .bool))] (.d (.bool (bs.all id))) := ⟨_, cr_all hc, fun vs H G Q eg o q => by
  cases o with
  | cons o r =>
    cases r
    have o' : Rp X.K G _ (.list (bs.map .bool)) := o
    cases o' with
    | lst hp r => exact ⟨_, bs, rfl, by rw [← r.bools]; exact SqL.of (eg _ _ hp), q _ H G (Vx.refl eg) (.bl _)⟩⟩
theorem c_any {bs : List Bool} (hc : X.calm = true) : Cy X (.builtin "any") [.d (.list (bs.map .bool))] (.d (.bool (bs.any id))) := ⟨_, cr_any hc, fun vs H G Q eg o q => by
  cases o with
  | cons o r =>
    cases r
    have o' : Rp X.K G _ (.list (bs.map .bool)) := o
    cases o' with
    | lst hp r => exact ⟨_, bs, rfl, by rw [← r.bools]; exact SqL.of (eg _ _ hp), q _ H G (Vx.refl eg) (.bl _)⟩⟩
theorem c_sum {ns : List Int} (hc : X.calm = true) : Cy X (.builtin "sum") [.d (.list (ns.map .int))] (.d (.int ns.sum)) := ⟨_, cr_sum hc, fun vs H G Q eg o q => by
  cases o with
  | cons o r =>
    cases r
    have o' : Rp X.K G _ (.list (ns.map .int)) := o
    cases o' with
    | lst hp r => exact ⟨_, ns, rfl, by rw [← r.ints]; exact SqL.of (eg _ _ hp), q _ H G (Vx.refl eg) (.int _)⟩⟩
/-- a <= b <= c of ints, as a test -/
theorem t_chain {cE : Expr} {i j m : Int} (ha : Ey X a δ (.d (.int i))) (hb : Ey X b δ (.d (.int j))) (hc : Ey X cE δ (.d (.int m))) (hm : lastMarks [CmpOp.LtE, CmpOp.LtE] [b, cE] = false := by with_unfolding_all rfl) :
    Ty X (.Compare a [.LtE, .LtE] [b, cE] pos) δ (decide (i ≤ j) && decide (j ≤ m)) := fun σ H G Q eg en q => by
  refine leT (pt_chain op_le op_le peW peW peW hm) (ha σ H G _ eg en fun x H1 G1 v1 o1 => hb σ H1 G1 _ v1.gh (en.mono v1.gg) fun y H2 G2 v2 o2 => ?_)
  have o1' : Rp X.K G1 x (.int i) := o1
  have o2' : Rp X.K G2 y (.int j) := o2
  cases o1'
  cases o2'
  refine ⟨i, j, rfl, rfl, _, rfl, ?_⟩
  by_cases z : i ≤ j
  · rw [decide_eq_true z, if_pos rfl]
    refine hc σ H2 G2 _ v2.gh ((en.mono v1.gg).mono v2.gg) fun w H3 G3 v3 o3 => ?_
    have o3' : Rp X.K G3 w (.int m) := o3
    cases o3'
    refine ⟨j, m, rfl, rfl, _, rfl, ?_⟩
    have q' := q H3 G3 ((v1.trans v2).trans v3)
    rw [decide_eq_true z, Bool.true_and] at q'
    exact q'
  · rw [decide_eq_false z, if_neg Bool.false_ne_true]
    refine ⟨false, rfl, ?_⟩
    have q' := q H2 G2 (v1.trans v2)
    rw [decide_eq_false z, Bool.false_and] at q'
    exact q'
end
end KW
set_option linter.all false
set_option maxRecDepth 100000
set_option maxHeartbeats 4000000
/-! zip of many tuples, gathered in a list -/
namespace KZ
open PySem
open PySem.Sem (wp)
abbrev Row := Addr × Addr × Array Value
/-- where the parts of such a zip lie -/
structure Ap (z TI TO : Addr) (ps : List Row) : Prop where
  a1 : TI ≠ z
  a2 : TO ≠ z
  a3 : TI ≠ TO
  b : ∀ p ∈ ps, p.1 ≠ z ∧ p.1 ≠ TI ∧ p.1 ≠ TO ∧ p.2.1 ≠ z ∧ p.2.1 ≠ TO ∧ ∀ q ∈ ps, q.1 ≠ p.2.1
  nd : (ps.map (·.1)).Nodup
abbrev ZAt (h : Heap) (z TI TO : Addr) (f0 f1 : Value) : Prop := h.get? z = some { cls := .type "zip", dict := none, data := .fields #[f0, f1, .bool false, .ref TI, .ref TO], slots := #[] }
abbrev TAt (h : Heap) (a : Addr) (vs : List Value) : Prop := h.get? a = some { cls := .type "tuple", data := .seq vs.toArray }
structure Zs (h : Heap) (z TI TO : Addr) (ps : List Row) (k : Nat) : Prop where
  ti : TAt h TI (ps.map fun p => Value.ref p.1)
  to : ∃ vs : List Value, vs.length = ps.length ∧ TAt h TO vs
  it : ∀ p ∈ ps, h.IsTupleIter p.1 p.2.1 k ∧ h.IsTuple p.2.1 p.2.2
section
variable {prog : Program} {w : World} {A : Around} {E : Value → Shared → Prop} {s : Shared} {α β : Type}
theorem wpAny_alive {a : Addr} {Q : Option Obj → Shared → Prop} (h : Q (s.heap.get? a) s) : wpAny (model prog w) A (loadIfAlive a) Q E s := fun Γ p _ => by
  show wp _ Γ (.loadIfAlive a .pure) _ _ p s
  rw [Sem.wp_loadIfAlive]
  show wp _ Γ (.pure _) _ _ p s
  rw [Sem.wp_pure]
  exact h
/-- the tuple of the last turn still stands -/
theorem not_free {z TI TO T : Addr} {b : Bool} {o : Obj} {Q : Bool → Shared → Prop} (hz : ZAt s.heap z TI TO (rawInt T) (.bool b)) (hT : s.heap.get? T = some o) (hQ : ∀ h', ZAt h' z TI TO (rawInt T) (.bool true) → Heap.SameBut z s.heap h' → Q false { s with heap := h' }) :
    wpAny (model prog w) A (Builtin.SmallTypes.ownedTupleIsFree (.ref z)) Q E s := by
  unfold Builtin.SmallTypes.ownedTupleIsFree
  refine wpAny_bind (wpAny_field hz rfl (x := rawInt T) rfl ?_)
  show wpAny _ _ (loadIfAlive (T : Int).toNat >>= _) _ _ s
  refine wpAny_bind (wpAny_alive ?_)
  rw [Int.toNat_natCast, hT]
  show wpAny _ _ (field (.ref z) 1 >>= _) _ _ s
  refine wpAny_bind (wpAny_field hz rfl (x := .bool b) rfl ?_)
  cases b with
  | true => exact wpAny_pure (hQ s.heap hz (Heap.SameBut.refl _ _))
  | false =>
    show wpAny _ _ (setField (.ref z) 1 (.bool true) >>= _) _ _ s
    exact wpAny_bind (wpAny_setField_rec hz (by simp) fun h' hz' hs => wpAny_pure (hQ h' hz' hs))
/-- one draw after the other -/
theorem drawsB {k : Nat} {ρ : Type} (f : Value → Option ρ × Array Value → Sem (ForInStep (Option ρ × Array Value)))
    (hf : ∀ (p : Row) (items : Array Value) (x : Value) (s : Shared) (Q : ForInStep (Option ρ × Array Value) → Shared → Prop), s.heap.IsTupleIter p.1 p.2.1 k → s.heap.IsTuple p.2.1 p.2.2 → p.2.2[k]? = some x →
      (∀ h', h'.IsTupleIter p.1 p.2.1 (k + 1) → Heap.SameBut p.1 s.heap h' → Q (.yield (none, items.push x)) { s with heap := h' }) → wpAny (model prog w) A (f (.ref p.1) (none, items)) Q E s) :
    ∀ (rest pre : List Row) (xs : List Value) (items : Array Value) (s : Shared) (Q : Option ρ × Array Value → Shared → Prop), ((pre ++ rest).map (·.1)).Nodup → (∀ p ∈ pre ++ rest, ∀ q ∈ pre ++ rest, q.1 ≠ p.2.1) →
      (∀ p ∈ pre, s.heap.IsTupleIter p.1 p.2.1 (k + 1) ∧ s.heap.IsTuple p.2.1 p.2.2) → (∀ p ∈ rest, s.heap.IsTupleIter p.1 p.2.1 k ∧ s.heap.IsTuple p.2.1 p.2.2) → rest.map (fun p => p.2.2[k]?) = xs.map some →
      (∀ h', (∀ p ∈ pre ++ rest, h'.IsTupleIter p.1 p.2.1 (k + 1) ∧ h'.IsTuple p.2.1 p.2.2) → h'.objs.size = s.heap.objs.size → (∀ c u, c ∉ (pre ++ rest).map (·.1) → s.heap.get? c = some u → h'.get? c = some u) → Q (none, items ++ xs.toArray) { s with heap := h' }) →
      wpAny (model prog w) A (forIn (rest.map fun p => Value.ref p.1) (none, items) f) Q E s
  | [], pre, xs, items, s, Q, _, _, h1, _, hx, hQ => by
    cases xs with
    | cons x xs => cases hx
    | nil =>
      simp only [List.map_nil, List.forIn_nil]
      refine wpAny_pure ?_
      have := hQ s.heap (by simpa using h1) rfl fun c u _ q => q
      simpa using this
  | p :: rest, pre, xs, items, s, Q, nd, ap, h1, h2, hx, hQ => by
    cases xs with
    | nil => cases hx
    | cons x xs =>
      rw [List.map_cons, List.map_cons] at hx
      obtain ⟨e1, e2⟩ := List.cons.inj hx
      obtain ⟨i1, i2⟩ := h2 p List.mem_cons_self
      rw [List.map_cons, List.forIn_cons]
      refine wpAny_bind (hf p items x s _ i1 i2 e1 fun h' j1 sb => ?_)
      have mp : p ∈ pre ++ p :: rest := by simp
      have ass : pre ++ p :: rest = (pre ++ [p]) ++ rest := by simp
      have ne : ∀ q ∈ pre ++ rest, q.1 ≠ p.1 := by
        rw [List.map_append, List.map_cons] at nd
        intro q hq e
        have nd2 := List.nodup_append.mp nd
        have nd3 := List.nodup_cons.mp nd2.2.1
        rcases List.mem_append.mp hq with m | m
        · exact nd2.2.2 q.1 (List.mem_map_of_mem m) p.1 List.mem_cons_self e
        · exact nd3.1 (by rw [← e]; exact List.mem_map_of_mem m)
      have it : ∀ {q : Row} {i : Nat}, q ∈ pre ++ rest → s.heap.IsTupleIter q.1 q.2.1 i → h'.IsTupleIter q.1 q.2.1 i := fun hq t => t.extBut sb.extBut (ne _ hq)
      have tu : ∀ {q : Row}, q ∈ pre ++ p :: rest → s.heap.IsTuple q.2.1 q.2.2 → h'.IsTuple q.2.1 q.2.2 := fun hq t => t.extBut sb.extBut (fun e => ap _ hq _ mp e.symm)
      refine drawsB f hf rest (pre ++ [p]) xs (items.push x) { s with heap := h' } Q (by rw [← ass]; exact nd) (by rw [← ass]; exact ap) (fun q hq => ?_) (fun q hq => ?_) e2 fun h'' a1 a2 a3 => ?_
      · rcases List.mem_append.mp hq with m | m
        · obtain ⟨u1, u2⟩ := h1 q m
          exact ⟨it (List.mem_append_left _ m) u1, tu (List.mem_append_left _ m) u2⟩
        · rw [List.mem_singleton] at m
          rw [m]
          exact ⟨j1, tu mp i2⟩
      · obtain ⟨u1, u2⟩ := h2 q (List.mem_cons_of_mem _ hq)
        exact ⟨it (List.mem_append_right _ hq) u1, tu (by simp [hq]) u2⟩
      · have := hQ h'' (by rw [ass]; exact a1) (a2.trans sb.1) fun c u hc e => a3 c u (by rw [← ass]; exact hc) ((sb.2 c fun z => hc (by rw [z]; exact List.mem_map_of_mem mp)).trans e)
        simpa using this
/-- a turn that is not the first -/
theorem zipB {z TI TO : Addr} {ps : List Row} {k : Nat} {T : Addr} {b : Bool} {o : Obj} {xs : List Value} {Q : Value → Shared → Prop} (D : Ap z TI TO ps) (hne : ps ≠ []) (hzl : ps.length ≤ 1000) (hz : ZAt s.heap z TI TO (rawInt T) (.bool b)) (hT : s.heap.get? T = some o) (Z : Zs s.heap z TI TO ps k)
    (hx : ps.map (fun p => p.2.2[k]?) = xs.map some)
    (hQ : ∀ h', ZAt h' z TI TO (rawInt T) (.bool true) → Zs h' z TI TO ps (k + 1) → TAt h' s.heap.objs.size xs → (∀ c u, c ∉ z :: TO :: ps.map (·.1) → s.heap.get? c = some u → h'.get? c = some u) → h'.objs.size = s.heap.objs.size + 1 → Q (.ref s.heap.objs.size) { s with heap := h' }) :
    wpAny (model prog w) A (Builtin.«zip.__next__» ⟨[.ref z], []⟩) (fun fin s' => ∃ v, fin = .done (.ret v) ∧ Q v s') E s := by
  show wpAny _ _ (field (.ref z) 2 >>= _) _ _ _
  refine wpAny_bind (wpAny_field hz rfl (x := .bool false) rfl ?_)
  show wpAny _ _ (field (.ref z) 3 >>= _) _ _ _
  refine wpAny_bind (wpAny_field hz rfl (x := .ref TI) rfl ?_)
  refine wpAny_bind (wpAny_seqItems Z.ti rfl ?_)
  have hemp : (List.map (fun p : Row => Value.ref p.1) ps).toArray.isEmpty = false := by
    cases ps with
    | nil => exact absurd rfl hne
    | cons p ps => rfl
  simp only [hemp, Bool.false_eq_true, if_false]
  refine wpAny_bind (not_free hz hT fun h1 hz1 sb1 => ?_)
  simp only [Bool.false_eq_true, if_false]
  refine wpAny_bind ?_
  simp only [List.forIn_toArray]
  have sz : sizeLine ≥ 1000 := by decide
  refine drawsB (k := k) _ (fun p items x s' Q' t1 t2 t3 q => ?_) ps [] xs #[] _ _ (by simpa using D.nd) (by simpa using fun p hp q hq => (D.b p hp).2.2.2.2.2 q hq) (by simp) (fun p hp => ?_) hx fun h2 a1 a2 a3 => ?_
  · refine wpAny_bind (wpAny_holding ?_)
    show wpAny _ _ (Builtin.SmallTypes.nextOf (.ref p.1) >>= _) _ _ _
    exact wpAny_bind (RZ.nextOf_tuple_item t1 t2 t3 fun h' c1 c2 => wpAny_pure (wpAny_pure (q h' c1 c2)))
  · obtain ⟨u1, u2⟩ := Z.it p hp
    obtain ⟨n1, n2, n3, n4, n5, _⟩ := D.b p hp
    exact ⟨u1.extBut sb1.extBut n1, u2.extBut sb1.extBut n4⟩
  · simp only [List.nil_append] at a1 a3
    have hl : xs.length = ps.length := by have := congrArg List.length hx; simpa using this.symm
    show wpAny _ _ (newTuple (#[] ++ xs.toArray).toList >>= _) _ _ _
    refine wpAny_bind (wpAny_newTuple ?_ (by simp; omega))
    have hk : ∀ c u, c ∉ z :: TO :: ps.map (·.1) → s.heap.get? c = some u → h2.get? c = some u := fun c u hc e => a3 c u (fun m => hc (List.mem_cons_of_mem _ (List.mem_cons_of_mem _ m))) ((sb1.2 c fun q => hc (by rw [q]; exact List.mem_cons_self)).trans e)
    have e2 : h2.objs.size = s.heap.objs.size := a2.trans sb1.1
    have zn : z ∉ ps.map (·.1) := fun m => by
      obtain ⟨p, hp, e⟩ := List.mem_map.mp m
      exact (D.b p hp).1 e
    have tin : TI ∉ z :: TO :: ps.map (·.1) := fun m => by
      rcases List.mem_cons.mp m with m | m
      · exact D.a1 m
      rcases List.mem_cons.mp m with m | m
      · exact D.a3 m
      obtain ⟨p, hp, e⟩ := List.mem_map.mp m
      exact (D.b p hp).2.1 e
    obtain ⟨vs, l, hto⟩ := Z.to
    have ton : TO ∉ ps.map (·.1) := fun m => by
      obtain ⟨p, hp, e⟩ := List.mem_map.mp m
      exact (D.b p hp).2.2.1 e
    refine wpAny_pure ⟨_, rfl, ?_⟩
    have q := hQ (h2.push { cls := .type "tuple", data := .seq xs.toArray }) (Heap.get?_push_of_some _ (a3 z _ zn hz1)) ⟨Heap.get?_push_of_some _ (hk _ _ tin Z.ti), ⟨vs, l, Heap.get?_push_of_some _ (a3 _ _ ton ((sb1.2 _ D.a2).trans hto))⟩, fun p hp => ?_⟩ ?_ (fun c u hc e => Heap.get?_push_of_some _ (hk c u hc e)) (by rw [Heap.size_push, e2])
    · have e3 : (#[] ++ xs.toArray).toList.toArray = xs.toArray := by simp
      rw [e3]
      have e4 : Value.ref h2.objs.size = Value.ref s.heap.objs.size := by rw [e2]
      show Q (Value.ref h2.objs.size) _
      rw [e4]
      exact q
    · obtain ⟨u1, u2⟩ := a1 p hp
      exact ⟨u1.at fun o q => Heap.get?_push_of_some _ q, u2.push _⟩
    · show (h2.push _).get? _ = _
      rw [← e2]
      exact Heap.get?_push_size _ rfl
/-- the first turn's draws, put into the owned tuple -/
theorem drawsA {TO : Addr} {k : Nat} {ρ : Type} (f : Value × Nat → Option ρ × Unit → Sem (ForInStep (Option ρ × Unit)))
    (hf : ∀ (p : Row) (j : Nat) (x : Value) (vs : List Value) (s : Shared) (Q : ForInStep (Option ρ × Unit) → Shared → Prop), s.heap.IsTupleIter p.1 p.2.1 k → s.heap.IsTuple p.2.1 p.2.2 → p.1 ≠ TO → p.2.2[k]? = some x → TAt s.heap TO vs → vs.length ≤ 1000 →
      (∀ h', h'.IsTupleIter p.1 p.2.1 (k + 1) → TAt h' TO (vs.set j x) → h'.objs.size = s.heap.objs.size → (∀ c u, c ≠ p.1 → c ≠ TO → s.heap.get? c = some u → h'.get? c = some u) → Q (.yield (none, ())) { s with heap := h' }) → wpAny (model prog w) A (f (.ref p.1, j) (none, ())) Q E s) :
    ∀ (rest pre : List Row) (xs ws us : List Value) (s : Shared) (Q : Option ρ × Unit → Shared → Prop), ((pre ++ rest).map (·.1)).Nodup → (∀ p ∈ pre ++ rest, p.1 ≠ TO ∧ p.2.1 ≠ TO ∧ ∀ q ∈ pre ++ rest, q.1 ≠ p.2.1) →
      (∀ p ∈ pre, s.heap.IsTupleIter p.1 p.2.1 (k + 1) ∧ s.heap.IsTuple p.2.1 p.2.2) → (∀ p ∈ rest, s.heap.IsTupleIter p.1 p.2.1 k ∧ s.heap.IsTuple p.2.1 p.2.2) → rest.map (fun p => p.2.2[k]?) = xs.map some →
      TAt s.heap TO (ws ++ us) → ws.length = pre.length → us.length = rest.length → (ws ++ us).length ≤ 1000 →
      (∀ h', (∀ p ∈ pre ++ rest, h'.IsTupleIter p.1 p.2.1 (k + 1) ∧ h'.IsTuple p.2.1 p.2.2) → TAt h' TO (ws ++ xs) → h'.objs.size = s.heap.objs.size → (∀ c u, c ∉ TO :: (pre ++ rest).map (·.1) → s.heap.get? c = some u → h'.get? c = some u) → Q (none, ()) { s with heap := h' }) →
      wpAny (model prog w) A (forIn ((rest.map fun p => Value.ref p.1).zipIdx pre.length) (none, ()) f) Q E s
  | [], pre, xs, ws, us, s, Q, _, _, h1, _, hx, ht, hw, hu, _, hQ => by
    cases xs with
    | cons x xs => cases hx
    | nil =>
      simp only [List.map_nil, List.zipIdx_nil, List.forIn_nil]
      refine wpAny_pure ?_
      have e : us = [] := List.length_eq_zero_iff.mp (by simpa using hu)
      subst e
      exact hQ s.heap (by simpa using h1) ht rfl fun c u _ q => q
  | p :: rest, pre, xs, ws, us, s, Q, nd, ap, h1, h2, hx, ht, hw, hu, hz, hQ => by
    cases xs with
    | nil => cases hx
    | cons x xs =>
      cases us with
      | nil => cases hu
      | cons u0 us =>
        rw [List.map_cons, List.map_cons] at hx
        obtain ⟨e1, e2⟩ := List.cons.inj hx
        obtain ⟨i1, i2⟩ := h2 p List.mem_cons_self
        have mp : p ∈ pre ++ p :: rest := by simp
        rw [List.map_cons, List.zipIdx_cons, List.forIn_cons]
        refine wpAny_bind (hf p pre.length x (ws ++ u0 :: us) s _ i1 i2 (ap p mp).1 e1 ht hz fun h' j1 j2 j3 sb => ?_)
        have ass : pre ++ p :: rest = (pre ++ [p]) ++ rest := by simp
        have ne : ∀ q ∈ pre ++ rest, q.1 ≠ p.1 := by
          rw [List.map_append, List.map_cons] at nd
          intro q hq e
          have nd2 := List.nodup_append.mp nd
          have nd3 := List.nodup_cons.mp nd2.2.1
          rcases List.mem_append.mp hq with m | m
          · exact nd2.2.2 q.1 (List.mem_map_of_mem m) p.1 List.mem_cons_self e
          · exact nd3.1 (by rw [← e]; exact List.mem_map_of_mem m)
        have it : ∀ {q : Row} {i : Nat}, q ∈ pre ++ rest → s.heap.IsTupleIter q.1 q.2.1 i → h'.IsTupleIter q.1 q.2.1 i := fun {q i} hq t => t.at fun o e => sb _ o (ne _ hq) (ap q (by rcases List.mem_append.mp hq with m | m <;> simp [m])).1 e
        have tu : ∀ {q : Row}, q ∈ pre ++ p :: rest → s.heap.IsTuple q.2.1 q.2.2 → h'.IsTuple q.2.1 q.2.2 := fun {q} hq t => by
          obtain ⟨o, ho, r⟩ := t
          exact ⟨o, sb _ o (fun e => (ap _ hq).2.2 _ mp e.symm) (ap q hq).2.1 ho, r⟩
        have e5 : (ws ++ u0 :: us).set pre.length x = (ws ++ [x]) ++ us := by
          rw [← hw, List.set_append_right _ _ (Nat.le_refl _), Nat.sub_self, List.set_cons_zero]
          simp
        rw [e5] at j2
        have hlen : (pre ++ [p]).length = pre.length + 1 := by simp
        have := drawsA f hf rest (pre ++ [p]) xs (ws ++ [x]) us { s with heap := h' } Q (by rw [← ass]; exact nd) (by rw [← ass]; exact ap) (fun q hq => ?_) (fun q hq => ?_) e2 j2 (by simp [hw]) (by simpa using hu) (by simp at hz ⊢; omega) fun h'' a1 a2 a3 a4 => ?_
        · rw [hlen] at this
          exact this
        · rcases List.mem_append.mp hq with m | m
          · obtain ⟨u1, u2⟩ := h1 q m
            exact ⟨it (List.mem_append_left _ m) u1, tu (List.mem_append_left _ m) u2⟩
          · rw [List.mem_singleton] at m
            rw [m]
            exact ⟨j1, tu mp i2⟩
        · obtain ⟨u1, u2⟩ := h2 q (List.mem_cons_of_mem _ hq)
          exact ⟨it (List.mem_append_right _ hq) u1, tu (by simp [hq]) u2⟩
        · have := hQ h'' (by rw [ass]; exact a1) (by simpa using a2) (a3.trans j3) fun c u hc e => a4 c u (by rw [← ass]; exact hc) (sb c u (fun z => hc (by rw [z]; exact List.mem_cons_of_mem _ (List.mem_map_of_mem mp))) (fun z => hc (by rw [z]; exact List.mem_cons_self)) e)
          exact this
/-- the first turn -/
theorem zipA {z TI TO : Addr} {ps : List Row} {k : Nat} {xs : List Value} {Q : Value → Shared → Prop} (D : Ap z TI TO ps) (hne : ps ≠ []) (hzl : ps.length ≤ 1000) (hz : ZAt s.heap z TI TO .none (.bool false)) (Z : Zs s.heap z TI TO ps k)
    (hx : ps.map (fun p => p.2.2[k]?) = xs.map some)
    (hQ : ∀ h', ZAt h' z TI TO (rawInt s.heap.objs.size) (.bool false) → Zs h' z TI TO ps (k + 1) → TAt h' s.heap.objs.size xs → (∀ c u, c ∉ z :: TO :: ps.map (·.1) → s.heap.get? c = some u → h'.get? c = some u) → h'.objs.size = s.heap.objs.size + 1 → Q (.ref s.heap.objs.size) { s with heap := h' }) :
    wpAny (model prog w) A (Builtin.«zip.__next__» ⟨[.ref z], []⟩) (fun fin s' => ∃ v, fin = .done (.ret v) ∧ Q v s') E s := by
  show wpAny _ _ (field (.ref z) 2 >>= _) _ _ _
  refine wpAny_bind (wpAny_field hz rfl (x := .bool false) rfl ?_)
  show wpAny _ _ (field (.ref z) 3 >>= _) _ _ _
  refine wpAny_bind (wpAny_field hz rfl (x := .ref TI) rfl ?_)
  refine wpAny_bind (wpAny_seqItems Z.ti rfl ?_)
  have hemp : (List.map (fun p : Row => Value.ref p.1) ps).toArray.isEmpty = false := by
    cases ps with
    | nil => exact absurd rfl hne
    | cons p ps => rfl
  simp only [hemp, Bool.false_eq_true, if_false]
  refine wpAny_bind ?_
  unfold Builtin.SmallTypes.ownedTupleIsFree
  refine wpAny_bind (wpAny_field hz rfl (x := .none) rfl (wpAny_pure ?_))
  simp only [if_true]
  refine wpAny_bind (wpAny_rule ?_)
  refine wpAny_bind (wpAny_field hz rfl (x := .ref TO) rfl ?_)
  refine wpAny_bind (wpAny_setField_rec hz (by simp) fun h1 hz1 sb1 => ?_)
  replace hz1 : ZAt h1 z TI TO .ellipsis (.bool false) := hz1
  refine wpAny_bind ?_
  obtain ⟨vs, l, hto⟩ := Z.to
  have sz : sizeLine ≥ 1000 := by decide
  have hl : xs.length = ps.length := by have := congrArg List.length hx; simpa using this.symm
  refine drawsA (TO := TO) (k := k) _ (fun p j x vs s' Q' t1 t2 tn t3 t4 t5 q => ?_) ps [] xs [] vs _ _ (by simpa using D.nd) (fun p hp => ⟨(D.b p hp).2.2.1, (D.b p hp).2.2.2.2.1, (D.b p hp).2.2.2.2.2⟩) (by simp) (fun p hp => ?_) hx ((sb1.2 _ D.a2).trans hto) rfl l (by simp; omega) fun h2 a1 a2 a3 a4 => ?_
  · refine wpAny_bind (wpAny_onRaise ?_)
    show wpAny _ _ (Builtin.SmallTypes.nextOf (.ref p.1) >>= _) _ _ _
    refine wpAny_bind (RZ.nextOf_tuple_item t1 t2 t3 fun h' c1 c2 => wpAny_pure ?_)
    have tq : TAt h' TO vs := (c2.2 _ (Ne.symm tn)).trans t4
    refine wpAny_bind (wpAny_seqItems tq rfl ?_)
    refine wpAny_bind (wpAny_updateSeq tq rfl (wpAny_bind (wpAny_letGo (wpAny_pure ?_))) (by rw [List.size_toArray]; omega) (by rw [Array.size_setIfInBounds, List.size_toArray]; omega))
    refine q _ ?_ ?_ ?_ fun c u n1 n2 e => ?_
    · exact c1.at fun o e => (Heap.get?_update_other _ _ (Ne.symm tn)).trans e
    · show (h'.update TO _).get? TO = _
      rw [Heap.get?_update_self _ tq rfl]
      simp [Obj.mapSeq]
    · show (h'.update TO _).objs.size = _
      rw [Heap.size_update]
      exact c2.1
    · exact (Heap.get?_update_other _ _ (Ne.symm n2)).trans ((c2.2 _ n1).trans e)
  · obtain ⟨u1, u2⟩ := Z.it p hp
    obtain ⟨n1, n2, n3, n4, n5, _⟩ := D.b p hp
    exact ⟨u1.extBut sb1.extBut n1, u2.extBut sb1.extBut n4⟩
  · simp only [List.nil_append] at a1 a2 a4
    have zn : z ∉ TO :: ps.map (·.1) := fun m => by
      rcases List.mem_cons.mp m with m | m
      · exact D.a2 m.symm
      obtain ⟨p, hp, e⟩ := List.mem_map.mp m
      exact (D.b p hp).1 e
    have tin : TI ∉ z :: TO :: ps.map (·.1) := fun m => by
      rcases List.mem_cons.mp m with m | m
      · exact D.a1 m
      rcases List.mem_cons.mp m with m | m
      · exact D.a3 m
      obtain ⟨p, hp, e⟩ := List.mem_map.mp m
      exact (D.b p hp).2.1 e
    have hk : ∀ c u, c ∉ z :: TO :: ps.map (·.1) → s.heap.get? c = some u → h2.get? c = some u := fun c u hc e => a4 c u (fun m => hc (List.mem_cons_of_mem _ m)) ((sb1.2 c fun q => hc (by rw [q]; exact List.mem_cons_self)).trans e)
    have e2 : h2.objs.size = s.heap.objs.size := a3.trans sb1.1
    have hz2 : ZAt h2 z TI TO .ellipsis (.bool false) := a4 z _ zn hz1
    refine wpAny_bind (wpAny_seqItems a2 rfl ?_)
    refine wpAny_bind (wpAny_newTuple ?_ (by simp; omega))
    have hz3 : ZAt (h2.push { cls := .type "tuple", data := .seq xs.toArray }) z TI TO .ellipsis (.bool false) := Heap.get?_push_of_some _ hz2
    refine wpAny_bind ?_
    unfold Builtin.SmallTypes.ownedTupleHandOut
    refine wpAny_bind (wpAny_setField_rec hz3 (by simp) fun h4 hz4 sb4 => ?_)
    replace hz4 : ZAt h4 z TI TO (rawInt h2.objs.size) (.bool false) := hz4
    refine wpAny_setField_rec hz4 (by simp) fun h5 hz5 sb5 => ?_
    replace hz5 : ZAt h5 z TI TO (rawInt h2.objs.size) (.bool false) := hz5
    have up : ∀ c o, c ≠ z → (h2.push { cls := .type "tuple", data := .seq xs.toArray }).get? c = some o → h5.get? c = some o := fun c o n e => (sb5.2 _ n).trans ((sb4.2 _ n).trans e)
    have zlt : z < h2.objs.size := Heap.lt_size hz2
    refine wpAny_pure ⟨_, rfl, ?_⟩
    show Q (Value.ref h2.objs.size) _
    rw [e2] at hz5 zlt ⊢
    refine hQ h5 hz5 ⟨up _ _ D.a1 (Heap.get?_push_of_some _ (hk _ _ tin Z.ti)), ⟨xs, hl, up _ _ D.a2 (Heap.get?_push_of_some _ a2)⟩, fun p hp => ?_⟩ ?_ (fun c u hc e => up c u (fun q => hc (by rw [q]; exact List.mem_cons_self)) (Heap.get?_push_of_some _ (hk c u hc e))) ?_
    · obtain ⟨u1, u2⟩ := a1 p hp
      obtain ⟨n1, n2, n3, n4, n5, _⟩ := D.b p hp
      refine ⟨u1.at fun o q => up _ _ n1 (Heap.get?_push_of_some _ q), ?_⟩
      obtain ⟨o, ho, r⟩ := u2
      exact ⟨o, up _ _ n4 (Heap.get?_push_of_some _ ho), r⟩
    · refine up _ _ (Nat.ne_of_gt zlt) ?_
      rw [← e2]
      exact Heap.get?_push_size _ rfl
    · rw [sb5.1, sb4.1, Heap.size_push, e2]
/-- the iterators of such tuples -/
def itO (l : Addr) : Obj := { cls := .type "tuple_iterator", data := .fields #[.ref l, .int 0 0] }
def pushIts (h : Heap) : List Addr → Heap
  | [] => h
  | l :: ls => pushIts (h.push (itO l)) ls
theorem pushIts_size : ∀ (ls : List Addr) (h : Heap), (pushIts h ls).objs.size = h.objs.size + ls.length
  | [], h => rfl
  | l :: ls, h => by
    show (pushIts (h.push (itO l)) ls).objs.size = _
    rw [pushIts_size ls, Heap.size_push, List.length_cons]
    omega
theorem pushIts_old : ∀ (ls : List Addr) (h : Heap) (b : Addr) (o : Obj), h.get? b = some o → (pushIts h ls).get? b = some o
  | [], h, b, o, e => e
  | l :: ls, h, b, o, e => pushIts_old ls _ b o (Heap.get?_push_of_some _ e)
theorem pushIts_at : ∀ (ls : List Addr) (h : Heap) (j : Nat) (l : Addr), ls[j]? = some l → (pushIts h ls).get? (h.objs.size + j) = some (itO l)
  | [], h, j, l, e => by simp at e
  | l0 :: ls, h, 0, l, e => by
    have e' : l0 = l := Option.some.inj e
    subst e'
    exact pushIts_old ls _ _ _ (Heap.get?_push_size _ rfl)
  | l0 :: ls, h, j + 1, l, e => by
    have := pushIts_at ls (h.push (itO l0)) j l e
    rw [Heap.size_push] at this
    rw [show h.objs.size + (j + 1) = h.objs.size + 1 + j by omega]
    exact this
def itsFrom (n : Nat) : List Addr → List Value
  | [] => []
  | _ :: ls => .ref n :: itsFrom (n + 1) ls
theorem its_go (f : Value → Array Value → Sem (ForInStep (Array Value))) (hf : ∀ (l : Addr) (acc : Array Value) (its : Array Value) (s : Shared) (Q : ForInStep (Array Value) → Shared → Prop), s.heap.IsTuple l its →
      Q (.yield (acc.push (.ref s.heap.objs.size))) { s with heap := s.heap.push (itO l) } → wpAny (model prog w) A (f (.ref l) acc) Q E s) : ∀ (ls : List Addr) (acc : Array Value) (s : Shared) (Q : Array Value → Shared → Prop), (∀ l ∈ ls, ∃ its, s.heap.IsTuple l its) →
      Q (acc ++ (itsFrom s.heap.objs.size ls).toArray) { s with heap := pushIts s.heap ls } → wpAny (model prog w) A (forIn (ls.map Value.ref) acc f) Q E s
  | [], acc, s, Q, _, h => by
    simp only [List.map_nil, List.forIn_nil]
    refine wpAny_pure ?_
    simpa [itsFrom, pushIts] using h
  | l :: ls, acc, s, Q, ht, h => by
    rw [List.map_cons, List.forIn_cons]
    obtain ⟨its, t⟩ := ht l List.mem_cons_self
    refine wpAny_bind (hf l acc its s _ t ?_)
    refine its_go f hf ls (acc.push (.ref s.heap.objs.size)) { s with heap := s.heap.push (itO l) } Q (fun l' hl => ?_) ?_
    · obtain ⟨its', t'⟩ := ht l' (List.mem_cons_of_mem _ hl)
      exact ⟨its', t'.push _⟩
    · have e : acc.push (Value.ref s.heap.objs.size) ++ (itsFrom (s.heap.push (itO l)).objs.size ls).toArray = acc ++ (itsFrom s.heap.objs.size (l :: ls)).toArray := by
        rw [Heap.size_push]
        simp [itsFrom]
      show Q (acc.push (Value.ref s.heap.objs.size) ++ (itsFrom (s.heap.push (itO l)).objs.size ls).toArray) _
      rw [e]
      exact h
theorem iterAllT {ls : List Addr} {Q : List Value → Shared → Prop} (ht : ∀ l ∈ ls, ∃ its, s.heap.IsTuple l its) (h : Q (itsFrom s.heap.objs.size ls) { s with heap := pushIts s.heap ls }) : wpAny (model prog w) A (Builtin.SmallTypes.iterAll (ls.map Value.ref)) Q E s := by
  unfold Builtin.SmallTypes.iterAll
  refine wpAny_bind ?_
  refine its_go _ (fun l acc its s Q t q => ?_) ls #[] s _ ht (wpAny_pure (by simpa using h))
  exact wpAny_bind (wpAny_holding (wpAny_pyIter_tuple t (wpAny_pure q)))
end
def zh (h : Heap) (ls : List Addr) : Heap := ((pushIts h ls).push { cls := .type "tuple", data := .seq (itsFrom h.objs.size ls).toArray }).push { cls := .type "tuple", data := .seq ((itsFrom h.objs.size ls).map fun _ => Value.none).toArray }
def zh5 (h : Heap) (ls : List Addr) : Heap := (zh h ls).push { cls := .type "zip", data := .fields #[.none, .bool false, .bool false, .ref (pushIts h ls).objs.size, .ref ((pushIts h ls).push { cls := .type "tuple", data := .seq (itsFrom h.objs.size ls).toArray }).objs.size] }
theorem itsFrom_len : ∀ (ls : List Addr) (n : Nat), (itsFrom n ls).length = ls.length
  | [], _ => rfl
  | _ :: ls, n => by
    show (itsFrom (n + 1) ls).length + 1 = ls.length + 1
    rw [itsFrom_len]
theorem meets_zip (ls : List Addr) (hn : ls.length ≤ 1000) :
    Meets (Builtin.«zip.__new__» ⟨.type "zip" :: ls.map Value.ref, []⟩) (fun _ R s => (∀ l ∈ ls, ∃ its, s.heap.IsTuple l its) ∧ R (.ok (.ret (.ref (zh s.heap ls).objs.size))) { s with heap := zh5 s.heap ls }) :=
  .of_wp fun prog w A R s h => by
    obtain ⟨ht, h⟩ := h
    have hsub := sub_zip
    have sz : sizeLine ≥ 1000 := by decide
    have hl := itsFrom_len ls s.heap.objs.size
    wp_walk
    refine its_go (fun x acc => do
            let v ← holding acc.toList (pyIter x)
            pure (ForInStep.yield (acc.push v))) (fun l acc its s Q t q => ?_) ls #[] s _ ht ?_
    · exact wpAny_bind (wpAny_holding (wpAny_pyIter_tuple t (wpAny_pure q)))
    · refine wpAny_pure ?_
      refine wpAny_bind (wpAny_newTuple ?_ (by simp [hl]; omega))
      refine wpAny_bind (wpAny_newTuple ?_ (by simp [hl]; omega))
      refine wpAny_bind ?_
      unfold Builtin.SmallTypes.newRecord Builtin.SmallTypes.ownedTupleFields
      refine wpAny_newObj_type ?_ (by first | size_fits | exact True.intro | simp [sizeOk])
      refine wpAny_pure ⟨_, rfl, ?_⟩
      simpa [zh5, zh] using h
section
variable {prog : Program} {w : World} {A : Around} {E : Value → Shared → Prop} {s : Shared}
theorem zip_call_ok {vs : List Value} (h1 : 1 ≤ vs.length) (h6 : vs.length ≤ 8) : checkTypeCall "zip" ⟨vs, []⟩ = pure () ∧ checkBuiltinCall "zip.__new__" ⟨.type "zip" :: vs, []⟩ = pure () ∧ ∀ obj, argsOk "object.__init__" ⟨obj :: vs, []⟩ := by
  match vs, h1, h6 with
  | [a], _, _ => exact ⟨by kernel_rfl, by kernel_rfl, fun obj => by unfold argsOk; rw [signature?_of (id := "object.__init__") (n := ['_', '_', 't', 'i', 'n', 'i', '_', '_']) (o := ['t', 'c', 'e', 'j', 'b', 'o']) (by kernel_rfl) F.owner_object]; kernel_rfl⟩
  | [a, b], _, _ => exact ⟨by kernel_rfl, by kernel_rfl, fun obj => by unfold argsOk; rw [signature?_of (id := "object.__init__") (n := ['_', '_', 't', 'i', 'n', 'i', '_', '_']) (o := ['t', 'c', 'e', 'j', 'b', 'o']) (by kernel_rfl) F.owner_object]; kernel_rfl⟩
  | [a, b, c], _, _ => exact ⟨by kernel_rfl, by kernel_rfl, fun obj => by unfold argsOk; rw [signature?_of (id := "object.__init__") (n := ['_', '_', 't', 'i', 'n', 'i', '_', '_']) (o := ['t', 'c', 'e', 'j', 'b', 'o']) (by kernel_rfl) F.owner_object]; kernel_rfl⟩
  | [a, b, c, d], _, _ => exact ⟨by kernel_rfl, by kernel_rfl, fun obj => by unfold argsOk; rw [signature?_of (id := "object.__init__") (n := ['_', '_', 't', 'i', 'n', 'i', '_', '_']) (o := ['t', 'c', 'e', 'j', 'b', 'o']) (by kernel_rfl) F.owner_object]; kernel_rfl⟩
  | [a, b, c, d, e], _, _ => exact ⟨by kernel_rfl, by kernel_rfl, fun obj => by unfold argsOk; rw [signature?_of (id := "object.__init__") (n := ['_', '_', 't', 'i', 'n', 'i', '_', '_']) (o := ['t', 'c', 'e', 'j', 'b', 'o']) (by kernel_rfl) F.owner_object]; kernel_rfl⟩
  | [a, b, c, d, e, f], _, _ => exact ⟨by kernel_rfl, by kernel_rfl, fun obj => by unfold argsOk; rw [signature?_of (id := "object.__init__") (n := ['_', '_', 't', 'i', 'n', 'i', '_', '_']) (o := ['t', 'c', 'e', 'j', 'b', 'o']) (by kernel_rfl) F.owner_object]; kernel_rfl⟩
  | [a, b, c, d, e, f, g], _, _ => exact ⟨by kernel_rfl, by kernel_rfl, fun obj => by unfold argsOk; rw [signature?_of (id := "object.__init__") (n := ['_', '_', 't', 'i', 'n', 'i', '_', '_']) (o := ['t', 'c', 'e', 'j', 'b', 'o']) (by kernel_rfl) F.owner_object]; kernel_rfl⟩
  | [a, b, c, d, e, f, g, g'], _, _ => exact ⟨by kernel_rfl, by kernel_rfl, fun obj => by unfold argsOk; rw [signature?_of (id := "object.__init__") (n := ['_', '_', 't', 'i', 'n', 'i', '_', '_']) (o := ['t', 'c', 'e', 'j', 'b', 'o']) (by kernel_rfl) F.owner_object]; kernel_rfl⟩
/-- the call of zip -/
theorem call_zipN {ls : List Addr} {Q : Value → Shared → Prop} (h1 : 1 ≤ ls.length) (h6 : ls.length ≤ 8) (ht : ∀ l ∈ ls, ∃ its, s.heap.IsTuple l its) (h : Q (.ref (zh s.heap ls).objs.size) { s with heap := zh5 s.heap ls }) :
    wpAny (model prog w) A (call (.type "zip") (ls.map Value.ref)) Q E s := by
  obtain ⟨c1, c2, c3⟩ := zip_call_ok (vs := ls.map Value.ref) (by simpa using h1) (by simpa using h6)
  exact callType_new F.called_zip (by decide) c1 c2 c3 F.entry_zip_new (meets_zip ls (by omega)) ⟨ht, ⟨_, Heap.get?_push_size _ rfl, rfl⟩, h⟩
/-- such a zip at its k-th turn -/
structure Zt (h : Heap) (z TI TO : Addr) (ps : List Row) (k : Nat) : Prop where
  zs : Zs h z TI TO ps k
  f : (k = 0 ∧ ZAt h z TI TO .none (.bool false)) ∨ ∃ (T : Addr) (b : Bool) (o : Obj), ZAt h z TI TO (rawInt T) (.bool b) ∧ h.get? T = some o
theorem Zt.type {z TI TO : Addr} {ps : List Row} {k : Nat} (Z : Zt s.heap z TI TO ps k) : s.TypeIs (.ref z) "zip" := by
  rcases Z.f with ⟨_, f⟩ | ⟨T, b, o, f, _⟩
  · exact ⟨_, f, rfl⟩
  · exact ⟨_, f, rfl⟩
theorem next_item {z TI TO : Addr} {ps : List Row} {k : Nat} {xs : List Value} {Q : Option Value → Shared → Prop} (D : Ap z TI TO ps) (hne : ps ≠ []) (hzl : ps.length ≤ 1000) (Z : Zt s.heap z TI TO ps k) (hx : ps.map (fun p => p.2.2[k]?) = xs.map some)
    (hQ : ∀ h', Zt h' z TI TO ps (k + 1) → TAt h' s.heap.objs.size xs → (∀ c u, c ∉ z :: TO :: ps.map (·.1) → s.heap.get? c = some u → h'.get? c = some u) → h'.objs.size = s.heap.objs.size + 1 → Q (some (.ref s.heap.objs.size)) { s with heap := h' }) :
    wpAny (model prog w) A (pyNext (.ref z)) Q E s := by
  have hT := Z.type
  unfold pyNext
  refine wpAny_bind (wpAny_attempt (wpAny_callSpecial?_slot (name := Str.ofString "__next__") hT F.slot_zip_next
    (wpAny_call_entry F.slot_zip_next hT F.entry_zip_next ?_ (F.args_zip_next_1 _))))
  rcases Z.f with ⟨_, f⟩ | ⟨T, b, o, f, g⟩
  · exact zipA D hne hzl f Z.zs hx fun h' a1 a2 a3 a4 a5 => wpAny_pure (hQ h' ⟨a2, .inr ⟨_, _, _, a1, a3⟩⟩ a3 a4 a5)
  · refine zipB D hne hzl f g Z.zs hx fun h' a1 a2 a3 a4 a5 => wpAny_pure (hQ h' ⟨a2, ?_⟩ a3 a4 a5)
    by_cases hT : ∃ o', h'.get? T = some o'
    · obtain ⟨o', e⟩ := hT
      exact .inr ⟨T, true, o', a1, e⟩
    · refine absurd ?_ hT
      by_cases m : T ∈ z :: TO :: ps.map (·.1)
      · rcases List.mem_cons.mp m with m | m
        · exact ⟨_, by rw [m]; exact a1⟩
        rcases List.mem_cons.mp m with m | m
        · obtain ⟨vs, _, e⟩ := a2.to
          exact ⟨_, by rw [m]; exact e⟩
        · obtain ⟨p, hp, e⟩ := List.mem_map.mp m
          obtain ⟨⟨o, ho, _⟩, _⟩ := a2.it p hp
          exact ⟨o, by rw [← e]; exact ho⟩
      · exact ⟨o, a4 T o m g⟩
theorem zip_end {z TI TO : Addr} {ps : List Row} {k : Nat} {T : Addr} {b : Bool} {o : Obj} {Q : Fin → Shared → Prop} (hh : A.handled = none) (D : Ap z TI TO ps) (hne : ps ≠ []) (hz : ZAt s.heap z TI TO (rawInt T) (.bool b)) (hT : s.heap.get? T = some o) (Z : Zs s.heap z TI TO ps k)
    (hx : ∀ p ∈ ps, p.2.2[k]? = none)
    (hE : ∀ h' e, (∀ c u, c ∉ z :: TO :: ps.map (·.1) → s.heap.get? c = some u → h'.get? c = some u) → (∃ o, h'.get? e = some o ∧ o.cls = .type "StopIteration") → E (.ref e) { s with heap := h' }) :
    wpAny (model prog w) A (Builtin.«zip.__next__» ⟨[.ref z], []⟩) Q E s := by
  show wpAny _ _ (field (.ref z) 2 >>= _) _ _ _
  refine wpAny_bind (wpAny_field hz rfl (x := .bool false) rfl ?_)
  show wpAny _ _ (field (.ref z) 3 >>= _) _ _ _
  refine wpAny_bind (wpAny_field hz rfl (x := .ref TI) rfl ?_)
  refine wpAny_bind (wpAny_seqItems Z.ti rfl ?_)
  cases ps with
  | nil => exact absurd rfl hne
  | cons p ps =>
    have hemp : (List.map (fun p : Row => Value.ref p.1) (p :: ps)).toArray.isEmpty = false := rfl
    simp only [hemp, Bool.false_eq_true, if_false]
    refine wpAny_bind (not_free hz hT fun h1 hz1 sb1 => ?_)
    simp only [Bool.false_eq_true, if_false]
    refine wpAny_bind ?_
    simp only [List.forIn_toArray, List.map_cons, List.forIn_cons]
    refine wpAny_bind (wpAny_bind (wpAny_holding ?_))
    show wpAny _ _ (Builtin.SmallTypes.nextOf (.ref p.1) >>= _) _ _ _
    obtain ⟨u1, u2⟩ := Z.it p List.mem_cons_self
    obtain ⟨n1, n2, n3, n4, n5, _⟩ := D.b p List.mem_cons_self
    refine wpAny_bind (RZ.nextOf_tuple_end hh (u1.extBut sb1.extBut n1) (u2.extBut sb1.extBut n4) (hx p List.mem_cons_self) fun h' e c1 c2 => ?_)
    refine hE h' e (fun c u hc q => c1 c u (fun q' => hc (by rw [q']; simp)) ((sb1.2 c fun q' => hc (by rw [q']; simp)).trans q)) c2
theorem next_end {z TI TO : Addr} {ps : List Row} {k : Nat} {Q : Option Value → Shared → Prop} (hh : A.handled = none) (D : Ap z TI TO ps) (hne : ps ≠ []) (Z : Zt s.heap z TI TO ps k) (hk : 0 < k) (hx : ∀ p ∈ ps, p.2.2[k]? = none)
    (hQ : ∀ h', (∀ c u, c ∉ z :: TO :: ps.map (·.1) → s.heap.get? c = some u → h'.get? c = some u) → Q none { s with heap := h' }) : wpAny (model prog w) A (pyNext (.ref z)) Q E s := by
  have hT := Z.type
  unfold pyNext
  refine wpAny_bind (wpAny_attempt (wpAny_callSpecial?_slot (name := Str.ofString "__next__") hT F.slot_zip_next
    (wpAny_call_entry F.slot_zip_next hT F.entry_zip_next ?_ (F.args_zip_next_1 _))))
  rcases Z.f with ⟨f, _⟩ | ⟨T, b, o, f, g⟩
  · omega
  · refine zip_end hh D hne f g Z.zs hx fun h' e k1 ⟨o, ho, hc⟩ => ?_
    refine wpAny_bind (wpAny_isInstance (T := "StopIteration") (b := true) ⟨o, ho, hc⟩ isSubtype_stop ?_)
    exact wpAny_pure (hQ _ k1)
/-- the list's own loop -/
theorem gather {z TI TO S : Addr} {ps : List Row} {n N : Nat} {cols : Nat → List Value} {res : Value} (hh : A.handled = none) (D : Ap z TI TO ps) (hne : ps ≠ []) (hzl : ps.length ≤ 1000) (hn : n ≤ 1000) (h1n : 1 ≤ n) (hcol : ∀ k, k < n → ps.map (fun p => p.2.2[k]?) = (cols k).map some)
    (hend : ∀ p ∈ ps, p.2.2[n]? = none) (hS : S ∉ z :: TO :: ps.map (·.1)) (hTS : TI ≠ S) (hlS : ∀ p ∈ ps, p.2.1 ≠ S) {R : Result → Shared → Prop} (hlow : ∀ c, c ∈ z :: TO :: ps.map (·.1) → N ≤ c) (hSN : N ≤ S) :
    ∀ (k i : Nat) (s : Shared) (Ts : List Addr), n - i = k → i ≤ n → Zt s.heap z TI TO ps i → Ts.length = i → (∃ c, s.heap.get? S = some { cls := .type "list", dict := none, data := .seq (Ts.map Value.ref).toArray c, slots := #[] }) →
    (∀ j T, Ts[j]? = some T → TAt s.heap T (cols j) ∧ N ≤ T ∧ T ≠ S ∧ T ∉ z :: TO :: ps.map (·.1)) → Ts.Nodup → N ≤ s.heap.objs.size → S < s.heap.objs.size → (∀ c, c ∈ z :: TO :: ps.map (·.1) → c < s.heap.objs.size) → TI < s.heap.objs.size → (∀ T ∈ Ts, T < s.heap.objs.size) →
    (∀ (h' : Heap) (Ts' : List Addr) (c' : Nat), Ts'.length = n → h'.get? S = some { cls := .type "list", dict := none, data := .seq (Ts'.map Value.ref).toArray c', slots := #[] } → (∀ j T, Ts'[j]? = some T → TAt h' T (cols j) ∧ N ≤ T ∧ T ≠ S) → Ts'.Nodup → (∀ b o, b < N → s.heap.get? b = some o → h'.get? b = some o) → R (.ok (.ret res)) { s with heap := h' }) →
    codeAny (model prog w) A (.builtin "list.extend.loop" ⟨[.ref S, .ref z, res], []⟩) R s := by
  have sz : sizeLine ≥ 1000 := by decide
  intro k
  induction k with
  | zero =>
    intro i s Ts hk hi Z hl ⟨c, hSl⟩ hTs nd hN hSs hw hTI hTl hR
    have hin : i = n := by omega
    subst hin
    refine codeAny_builtin F.entry_extend_loop ?_
    rw [Around.under_plainId F.plain_extend_loop _]
    show wpAny _ A.in1 (pyNext (.ref z) >>= _) _ _ s
    refine wpAny_bind (next_end hh D hne Z h1n hend fun h' k1 => ?_)
    refine wpAny_pure (hR h' Ts c hl (k1 S _ hS hSl) (fun j T e => ?_) nd fun b o hb e => k1 b o (fun m => absurd (hlow b m) (by omega)) e)
    obtain ⟨a1, a2, a3, a4⟩ := hTs j T e
    exact ⟨k1 T _ a4 a1, a2, a3⟩
  | succ k ih =>
    intro i s Ts hk hi Z hl ⟨c, hSl⟩ hTs nd hN hSs hw hTI hTl hR
    have hlt : i < n := by omega
    refine codeAny_builtin F.entry_extend_loop ?_
    rw [Around.under_plainId F.plain_extend_loop _]
    show wpAny _ A.in1 (pyNext (.ref z) >>= _) _ _ s
    refine wpAny_bind (next_item D hne hzl Z (hcol i hlt) fun h' Z' hT' k1 e1 => ?_)
    have hS' := k1 S _ hS hSl
    show wpAny _ A.in1 (updateSeq S (·.push (.ref s.heap.objs.size)) >>= _) _ _ _
    refine wpAny_bind ?_
    have ne : ∀ c, c ∈ z :: TO :: ps.map (·.1) → S ≠ c := fun c hc e => hS (by rw [e]; exact hc)
    have hup : ∀ b o, b ≠ S → h'.get? b = some o → (h'.update S (Obj.mapSeq (·.push (Value.ref s.heap.objs.size)))).get? b = some o := fun b o n e => (Heap.get?_update_other _ _ (Ne.symm n)).trans e
    have Tne : s.heap.objs.size ≠ S := Nat.ne_of_gt hSs
    refine wpAny_updateSeq hS' rfl (wpAny_pure ⟨plainId_quiet F.plain_extend_loop _, ih (i + 1) _ (Ts ++ [s.heap.objs.size]) (by omega) hlt ⟨⟨?_, ?_, fun p hp => ?_⟩, ?_⟩ (by simp [hl]) ?_ (fun j T e => ?_) ?_ ?_ ?_ (fun c hc => ?_) ?_ (fun T hT => ?_) fun h'' Ts' c' b1 b2 b3 b4 b5 => ?_⟩)
      (by simp; omega) (by simp; omega)
    · exact hup _ _ hTS Z'.zs.ti
    · obtain ⟨vs, l, e⟩ := Z'.zs.to
      exact ⟨vs, l, hup _ _ (ne TO (by simp)).symm e⟩
    · obtain ⟨u1, u2⟩ := Z'.zs.it p hp
      have m1 : p.1 ∈ z :: TO :: ps.map (·.1) := by
        refine List.mem_cons_of_mem _ (List.mem_cons_of_mem _ (List.mem_map_of_mem hp))
      refine ⟨u1.at fun o e => hup _ _ (ne _ m1).symm e, ?_⟩
      obtain ⟨o, ho, r⟩ := u2
      exact ⟨o, hup _ _ (hlS p hp) ho, r⟩
    · rcases Z'.f with ⟨f, _⟩ | ⟨T, b, o, f, g⟩
      · omega
      · by_cases hTS' : T = S
        · exact .inr ⟨T, b, _, hup _ _ (ne z (by simp)).symm f, by rw [hTS']; exact Heap.get?_update_self _ hS' rfl⟩
        · exact .inr ⟨T, b, o, hup _ _ (ne z (by simp)).symm f, hup _ _ hTS' g⟩
    · have := Heap.get?_update_self (Obj.mapSeq (·.push (Value.ref s.heap.objs.size))) hS' rfl
      have e : (List.map Value.ref Ts).toArray.push (Value.ref s.heap.objs.size) = (List.map Value.ref (Ts ++ [s.heap.objs.size])).toArray := by simp
      simp only [Obj.mapSeq, e] at this
      exact ⟨_, this⟩
    · by_cases hj : j < Ts.length
      · rw [List.getElem?_append_left hj] at e
        obtain ⟨a1, a2, a3, a4⟩ := hTs j T e
        exact ⟨hup _ _ a3 (k1 T _ a4 a1), a2, a3, a4⟩
      · rw [List.getElem?_append_right (by omega)] at e
        have hj0 : j - Ts.length = 0 := by
          by_cases q : j - Ts.length = 0
          · exact q
          · rw [List.getElem?_eq_none (by simp; omega)] at e
            cases e
        rw [hj0] at e
        have e' : s.heap.objs.size = T := Option.some.inj e
        subst e'
        have : j = i := by omega
        subst this
        exact ⟨hup _ _ Tne hT', hN, Tne, fun m => absurd (hw _ m) (Nat.lt_irrefl _)⟩
    · rw [List.nodup_append]
      refine ⟨nd, by simp, fun a ha b hb => ?_⟩
      rw [List.mem_singleton] at hb
      subst hb
      exact Nat.ne_of_lt (hTl a ha)
    · show N ≤ (h'.update S _).objs.size
      rw [Heap.size_update, e1]
      exact Nat.le_succ_of_le hN
    · show S < (h'.update S _).objs.size
      rw [Heap.size_update, e1]
      exact Nat.lt_succ_of_lt hSs
    · show c < (h'.update S _).objs.size
      rw [Heap.size_update, e1]
      exact Nat.lt_succ_of_lt (hw c hc)
    · show TI < (h'.update S _).objs.size
      rw [Heap.size_update, e1]
      exact Nat.lt_succ_of_lt hTI
    · show T < (h'.update S _).objs.size
      rw [Heap.size_update, e1]
      rcases List.mem_append.mp hT with m | m
      · exact Nat.lt_succ_of_lt (hTl T m)
      · rw [List.mem_singleton] at m
        rw [m]
        exact Nat.lt_succ_self _
    · exact hR h'' Ts' c' b1 b2 b3 b4 fun b o hb e => b5 b o hb (hup b o (Nat.ne_of_lt (Nat.lt_of_lt_of_le hb hSN)) (k1 b o (fun m => absurd (hlow b m) (Nat.not_le_of_lt hb)) e))
theorem zip_no_len : typeLookup (.type "zip") "__len__" = pure none := by rw [typeLookup_type, builtinLookup_eq_fast]; kernel_rfl
theorem zip_no_hint : typeLookup (.type "zip") "__length_hint__" = pure none := by rw [typeLookup_type, builtinLookup_eq_fast]; kernel_rfl
/-- list(z) -/
theorem call_list_zip {z TI TO : Addr} {ps : List Row} {n N : Nat} {cols : Nat → List Value} (hh : A.handled = none) (D : Ap z TI TO ps) (hne : ps ≠ []) (hzl : ps.length ≤ 1000) (hn : n ≤ 1000) (h1n : 1 ≤ n) (hcol : ∀ k, k < n → ps.map (fun p => p.2.2[k]?) = (cols k).map some)
    (hend : ∀ p ∈ ps, p.2.2[n]? = none) (hlow : ∀ c, c ∈ z :: TO :: ps.map (·.1) → N ≤ c) (Z : Zt s.heap z TI TO ps 0) {Q : Value → Shared → Prop} (hNs : N ≤ s.heap.objs.size)
    (hQ : ∀ (h' : Heap) (Ts : List Addr) (c : Nat), Ts.length = n → h'.get? s.heap.objs.size = some { cls := .type "list", dict := none, data := .seq (Ts.map Value.ref).toArray c, slots := #[] } → (∀ j T, Ts[j]? = some T → TAt h' T (cols j) ∧ N ≤ T ∧ T ≠ s.heap.objs.size) → Ts.Nodup →
      (∀ b o, b < N → s.heap.get? b = some o → h'.get? b = some o) → Q (.ref s.heap.objs.size) { s with heap := h' }) : wpAny (model prog w) A (call (.type "list") [.ref z]) Q E s := by
  refine callType_codes (Q₁ := fun obj s₁ => obj = .ref s.heap.objs.size ∧ s₁ = { s with heap := s.heap.push { cls := .type "list", data := .seq #[] } }) F.called_list (F.typeCall_list_1 _) F.entry_list_init
    (code_list_new _ ⟨rfl, rfl⟩) fun obj s₁ h₁ => ?_
  obtain ⟨rfl, rfl⟩ := h₁
  have hS : (s.heap.push { cls := .type "list", data := .seq #[] }).get? s.heap.objs.size = some { cls := .type "list", data := .seq #[] } := Heap.get?_push_size _ rfl
  -- what lies in the heap lies below
  have lz : z < s.heap.objs.size := by
    obtain ⟨o, ho, _⟩ := Z.type
    exact Heap.lt_size ho
  have lO : TO < s.heap.objs.size := by
    obtain ⟨vs, _, e⟩ := Z.zs.to
    exact Heap.lt_size e
  have lI : TI < s.heap.objs.size := Heap.lt_size Z.zs.ti
  have li : ∀ p ∈ ps, p.1 < s.heap.objs.size ∧ p.2.1 < s.heap.objs.size := fun p hp => by
    obtain ⟨⟨o, ho, _⟩, ⟨o', ho', _⟩⟩ := Z.zs.it p hp
    exact ⟨Heap.lt_size ho, Heap.lt_size ho'⟩
  have lall : ∀ c, c ∈ z :: TO :: ps.map (·.1) → c < s.heap.objs.size := fun c hc => by
    rcases List.mem_cons.mp hc with m | m
    · rw [m]; exact lz
    rcases List.mem_cons.mp m with m | m
    · rw [m]; exact lO
    obtain ⟨p, hp, e⟩ := List.mem_map.mp m
    rw [← e]
    exact (li p hp).1
  refine ⟨⟨_, hS, rfl⟩, F.args_list_init_2 _ _, ?_⟩
  show wpAny _ _ (do let old ← Builtin.List.listItems (.ref s.heap.objs.size); Builtin.List.listUpdate (.ref s.heap.objs.size) (fun _ => #[]); letGo old.toList.reverse; Builtin.List.listExtendWith (.ref s.heap.objs.size) (.ref z) .none) _ _ _
  refine wpAny_bind ?_
  unfold Builtin.List.listItems
  refine wpAny_bind (wpAny_seqItems hS rfl (wpAny_pure ?_))
  show wpAny _ _ (updateSeq s.heap.objs.size (fun _ => #[]) >>= fun _ => letGo (#[] : Array Value).toList.reverse >>= fun _ => Builtin.List.listExtendWith (.ref s.heap.objs.size) (.ref z) .none) _ _ _
  refine wpAny_bind (wpAny_updateSeq hS rfl ?_)
  have hS₂ := Heap.get?_update_self (Obj.mapSeq (fun _ => (#[] : Array Value))) hS rfl
  refine wpAny_bind (wpAny_letGo ?_)
  have oth : ∀ b o, b ≠ s.heap.objs.size → s.heap.get? b = some o → ((s.heap.push { cls := .type "list", data := .seq #[] }).update s.heap.objs.size (Obj.mapSeq (fun _ => (#[] : Array Value)))).get? b = some o :=
    fun b o hb e => (Heap.get?_update_other _ _ (Ne.symm hb)).trans (Heap.get?_push_of_some _ e)
  obtain ⟨oz, hoz, hcz⟩ := Z.type
  have hTz : Shared.TypeIs { s with heap := (s.heap.push { cls := .type "list", data := .seq #[] }).update s.heap.objs.size (Obj.mapSeq (fun _ => (#[] : Array Value))) } (.ref z) "zip" := ⟨oz, oth _ _ (Nat.ne_of_lt lz) hoz, hcz⟩
  unfold Builtin.List.listExtendWith
  refine wpAny_bind (wpAny_typeOf hTz ?_)
  have h1 : Builtin.List.listSameRef (.ref s.heap.objs.size) (.ref z) = false := by simp [Builtin.List.listSameRef, Nat.ne_of_gt lz]
  have h2 : (Value.type "zip" == Value.type "list") = false := by decide
  have h3 : (Value.type "zip" == Value.type "tuple") = false := by decide
  simp only [h1, h2, h3, Bool.or_false, Bool.false_eq_true, if_false]
  refine wpAny_bind (wpAny_pyIter_slot hTz F.slot_zip_iter (wpAny_call_entry F.slot_zip_iter hTz F.entry_zip_iter ?_ (F.args_zip_iter_1 _)))
  refine wpAny_pure ⟨_, rfl, "zip", _, hTz, F.slot_zip_next.lookup, ?_⟩
  refine wpAny_bind (wpAny_holding ?_)
  unfold Builtin.List.listLengthHint
  refine wpAny_bind (wpAny_specialOf hTz zip_no_len ?_)
  show wpAny _ _ (specialOf (Value.ref z) (Str.ofString "__length_hint__") >>= _) _ _ _
  refine wpAny_bind (wpAny_specialOf hTz zip_no_hint ?_)
  refine wpAny_pure ?_
  show wpAny _ _ (rule "list.extend.makes-room" >>= fun _ => Builtin.List.listTouch (.ref s.heap.objs.size) >>= fun _ => again (.builtin "list.extend.loop" ⟨[.ref s.heap.objs.size, .ref z, .none], []⟩)) _ _ _
  refine wpAny_bind (wpAny_rule ?_)
  refine wpAny_bind ?_
  show wpAny _ _ (updateSeq s.heap.objs.size (·.push .none) >>= fun _ => updateSeq s.heap.objs.size (·.pop)) _ _ _
  refine wpAny_bind (wpAny_updateSeq hS₂ rfl ?_)
  have hS₃ := Heap.get?_update_self (Obj.mapSeq (·.push Value.none)) hS₂ rfl
  refine wpAny_updateSeq (hz := by seq_fits) hS₃ rfl ?_
  have hS₄ := Heap.get?_update_self (Obj.mapSeq (·.pop)) hS₃ rfl
  have oth2 : ∀ b o, b ≠ s.heap.objs.size → s.heap.get? b = some o → ((((s.heap.push { cls := .type "list", data := .seq #[] }).update s.heap.objs.size (Obj.mapSeq (fun _ => (#[] : Array Value)))).update s.heap.objs.size (Obj.mapSeq (·.push Value.none))).update s.heap.objs.size (Obj.mapSeq (·.pop))).get? b = some o :=
    fun b o hb e => (Heap.get?_update_other _ _ (Ne.symm hb)).trans ((Heap.get?_update_other _ _ (Ne.symm hb)).trans (oth b o hb e))
  have up : ∀ {b o}, s.heap.get? b = some o → ((((s.heap.push { cls := .type "list", data := .seq #[] }).update s.heap.objs.size (Obj.mapSeq (fun _ => (#[] : Array Value)))).update s.heap.objs.size (Obj.mapSeq (·.push Value.none))).update s.heap.objs.size (Obj.mapSeq (·.pop))).get? b = some o :=
    fun {b o} e => oth2 b o (Nat.ne_of_lt (Heap.lt_size e)) e
  have sz : ((((s.heap.push { cls := .type "list", data := .seq #[] }).update s.heap.objs.size (Obj.mapSeq (fun _ => (#[] : Array Value)))).update s.heap.objs.size (Obj.mapSeq (·.push Value.none))).update s.heap.objs.size (Obj.mapSeq (·.pop))).objs.size = s.heap.objs.size + 1 := by
    rw [Heap.size_update, Heap.size_update, Heap.size_update, Heap.size_push]
  refine wpAny_pure ⟨plainId_quiet F.plain_extend_loop _, ?_⟩
  revert up sz hS₄
  generalize ((((s.heap.push { cls := .type "list", data := .seq #[] }).update s.heap.objs.size (Obj.mapSeq (fun _ => (#[] : Array Value)))).update s.heap.objs.size (Obj.mapSeq (·.push Value.none))).update s.heap.objs.size (Obj.mapSeq (·.pop))) = h4
  intro hS₄ up sz
  have hh' : A.in1.handled = none := hh
  show codeAny (model prog w) A.in1 _ _ { s with heap := h4 }
  refine gather (A := A.in1) (n := n) (N := N) (cols := cols) (TI := TI) (TO := TO) (ps := ps) hh' D hne hzl hn h1n hcol hend (fun m => Nat.lt_irrefl _ (lall _ m)) (Nat.ne_of_lt lI) (fun p hp => Nat.ne_of_lt (li p hp).2) hlow hNs n 0 { s with heap := h4 } [] rfl (Nat.zero_le _) ⟨⟨up Z.zs.ti, ?_, fun p hp => ?_⟩, ?_⟩ rfl ⟨_, hS₄⟩ (fun j T e => by simp at e) List.nodup_nil ?_ ?_ (fun c hc => ?_) ?_ (fun T hT => by simp at hT) fun h' Ts c a1 a2 a3 a4 a5 => ?_
  · obtain ⟨vs, l, e⟩ := Z.zs.to
    exact ⟨vs, l, up e⟩
  · obtain ⟨u1, ⟨o, ho, r⟩⟩ := Z.zs.it p hp
    exact ⟨u1.at fun o e => up e, ⟨o, up ho, r⟩⟩
  · rcases Z.f with ⟨f0, f⟩ | ⟨T, b, o, f, g⟩
    · exact .inl ⟨f0, up f⟩
    · exact .inr ⟨T, b, o, up f, up g⟩
  · show N ≤ h4.objs.size
    rw [sz]
    exact Nat.le_succ_of_le hNs
  · show s.heap.objs.size < h4.objs.size
    rw [sz]
    exact Nat.lt_succ_self _
  · show c < h4.objs.size
    rw [sz]
    exact Nat.lt_succ_of_lt (lall c hc)
  · show TI < h4.objs.size
    rw [sz]
    exact Nat.lt_succ_of_lt lI
  · exact ⟨rfl, hQ h' Ts c a1 a2 a3 a4 fun b o hb e => a5 b o hb (up e)⟩
def rowsOf (n : Nat) : List Addr → List (Array Value) → List Row
  | l :: ls, it :: its => (n, l, it) :: rowsOf (n + 1) ls its
  | _, _ => []
theorem rowsOf_its : ∀ (ls : List Addr) (its : List (Array Value)) (n : Nat), its.length = ls.length → (rowsOf n ls its).map (fun p => Value.ref p.1) = itsFrom n ls
  | [], [], n, _ => rfl
  | l :: ls, it :: its, n, h => by
    show Value.ref n :: (rowsOf (n + 1) ls its).map (fun p => Value.ref p.1) = Value.ref n :: itsFrom (n + 1) ls
    rw [rowsOf_its ls its (n + 1) (by simpa using h)]
theorem rowsOf_len : ∀ (ls : List Addr) (its : List (Array Value)) (n : Nat), its.length = ls.length → (rowsOf n ls its).length = ls.length
  | [], [], n, _ => rfl
  | l :: ls, it :: its, n, h => by
    show (rowsOf (n + 1) ls its).length + 1 = ls.length + 1
    rw [rowsOf_len ls its (n + 1) (by simpa using h)]
theorem rowsOf_map {α : Type} (f : Array Value → α) : ∀ (ls : List Addr) (its : List (Array Value)) (n : Nat), its.length = ls.length → (rowsOf n ls its).map (fun p => f p.2.2) = its.map f
  | [], [], n, _ => rfl
  | l :: ls, it :: its, n, h => by
    show f it :: (rowsOf (n + 1) ls its).map (fun p => f p.2.2) = f it :: its.map f
    rw [rowsOf_map f ls its (n + 1) (by simpa using h)]
theorem rowsOf_mem : ∀ (ls : List Addr) (its : List (Array Value)) (n : Nat) (p : Row), p ∈ rowsOf n ls its → ∃ j, ls[j]? = some p.2.1 ∧ its[j]? = some p.2.2 ∧ p.1 = n + j
  | [], _, n, p, h => by simp [rowsOf] at h
  | _ :: _, [], n, p, h => by simp [rowsOf] at h
  | l :: ls, it :: its, n, p, h => by
    rcases List.mem_cons.mp h with m | m
    · rw [m]
      exact ⟨0, rfl, rfl, rfl⟩
    · obtain ⟨j, a, b, c⟩ := rowsOf_mem ls its (n + 1) p m
      exact ⟨j + 1, a, b, c.trans (by show (n + 1 + j : Nat) = n + (j + 1); omega)⟩
theorem rowsOf_nd : ∀ (ls : List Addr) (its : List (Array Value)) (n : Nat), ((rowsOf n ls its).map (·.1)).Nodup
  | [], _, n => List.nodup_nil
  | _ :: _, [], n => List.nodup_nil
  | l :: ls, it :: its, n => by
    show (n :: (rowsOf (n + 1) ls its).map (·.1)).Nodup
    refine List.nodup_cons.mpr ⟨fun m => ?_, rowsOf_nd ls its (n + 1)⟩
    obtain ⟨p, hp, e⟩ := List.mem_map.mp m
    obtain ⟨j, _, _, e2⟩ := rowsOf_mem _ _ _ _ hp
    have e' : p.1 = n := e
    rw [e2] at e'
    exact absurd e' (by show ¬ ((n + 1 + j : Nat) = n); omega)
/-- list(zip(*ls)) of tuples of one length -/
theorem list_zip_all {ls : List Addr} {its : List (Array Value)} {n : Nat} {cols : Nat → List Value} (hh : A.handled = none) (h1 : 1 ≤ ls.length) (h8 : ls.length ≤ 8) (hl : its.length = ls.length) (hn : n ≤ 1000) (h1n : 1 ≤ n) (ht : ∀ (j : Nat) (l : Addr) (it : Array Value), ls[j]? = some l → its[j]? = some it → s.heap.IsTuple l it ∧ it.size = n)
    (hcol : ∀ k, k < n → its.map (fun it => it[k]?) = (cols k).map some) {Q : Value → Shared → Prop}
    (hQ : ∀ (h' : Heap) (S : Addr) (Ts : List Addr) (c : Nat), Ts.length = n → s.heap.objs.size ≤ S → h'.get? S = some { cls := .type "list", dict := none, data := .seq (Ts.map Value.ref).toArray c, slots := #[] } → (∀ (j : Nat) (T : Addr), Ts[j]? = some T → TAt h' T (cols j) ∧ s.heap.objs.size ≤ T ∧ T ≠ S) → Ts.Nodup →
      (∀ b o, s.heap.get? b = some o → h'.get? b = some o) → Q (.ref S) { s with heap := h' }) :
    wpAny (model prog w) A (call (.type "zip") (ls.map Value.ref)) (fun z s1 => wpAny (model prog w) A (call (.type "list") [z]) Q E s1) E s := by
  refine call_zipN h1 h8 (fun l hm => ?_) ?_
  · obtain ⟨j, e⟩ := List.mem_iff_getElem?.mp hm
    have hj : j < its.length := by rw [hl]; exact (List.getElem?_eq_some_iff.mp e).1
    exact ⟨_, (ht j l its[j] e (List.getElem?_eq_getElem hj)).1⟩
  · have z1 := pushIts_size ls s.heap
    have z3 : (zh s.heap ls).objs.size = s.heap.objs.size + ls.length + 2 := by
      unfold zh
      rw [Heap.size_push, Heap.size_push, z1]
    have z2 : ((pushIts s.heap ls).push { cls := .type "tuple", data := .seq (itsFrom s.heap.objs.size ls).toArray }).objs.size = s.heap.objs.size + ls.length + 1 := by
      rw [Heap.size_push, z1]
    have gz : (zh5 s.heap ls).get? (zh s.heap ls).objs.size = some _ := Heap.get?_push_size _ rfl
    have old : ∀ b o, (pushIts s.heap ls).get? b = some o → (zh5 s.heap ls).get? b = some o := fun b o e => Heap.get?_push_of_some _ (Heap.get?_push_of_some _ (Heap.get?_push_of_some _ e))
    have gO : (zh5 s.heap ls).get? ((pushIts s.heap ls).push { cls := .type "tuple", data := .seq (itsFrom s.heap.objs.size ls).toArray }).objs.size = some _ := Heap.get?_push_of_some _ (Heap.get?_push_size _ rfl)
    have gI : (zh5 s.heap ls).get? (pushIts s.heap ls).objs.size = some _ := Heap.get?_push_of_some _ (Heap.get?_push_of_some _ (Heap.get?_push_size _ rfl))
    have z5 : (zh5 s.heap ls).objs.size = s.heap.objs.size + ls.length + 3 := by
      unfold zh5
      rw [Heap.size_push, z3]
    have ltp : ∀ p ∈ rowsOf s.heap.objs.size ls its, s.heap.objs.size ≤ p.1 ∧ p.1 < s.heap.objs.size + ls.length ∧ p.2.1 < s.heap.objs.size := fun p hp => by
      obtain ⟨j, a, b, c⟩ := rowsOf_mem _ _ _ _ hp
      obtain ⟨⟨o, ho, _⟩, _⟩ := ht j _ _ a b
      have hj := (List.getElem?_eq_some_iff.mp a).1
      refine ⟨by rw [c]; exact Nat.le_add_right _ _, by rw [c]; exact Nat.add_lt_add_left hj _, Heap.lt_size ho⟩
    rw [z2] at gO
    rw [z1] at gI
    rw [z3] at gz ⊢
    have D : Ap (s.heap.objs.size + ls.length + 2) (s.heap.objs.size + ls.length) (s.heap.objs.size + ls.length + 1) (rowsOf s.heap.objs.size ls its) := by
      refine ⟨by simp, by simp, by simp, fun p hp => ?_, rowsOf_nd _ _ _⟩
      obtain ⟨a, b, c⟩ := ltp p hp
      refine ⟨fun e => ?_, fun e => ?_, fun e => ?_, fun e => ?_, fun e => ?_, fun q hq e => ?_⟩
      · rw [e] at b; exact absurd b (by first | (simp; done) | (simp; omega) | omega)
      · rw [e] at b; exact absurd b (by first | (simp; done) | (simp; omega) | omega)
      · rw [e] at b; exact absurd b (by first | (simp; done) | (simp; omega) | omega)
      · rw [e] at c; exact absurd c (by first | (simp; done) | (simp; omega) | omega)
      · rw [e] at c; exact absurd c (by first | (simp; done) | (simp; omega) | omega)
      · have := (ltp q hq).1
        rw [e] at this
        exact Nat.lt_irrefl _ (Nat.lt_of_lt_of_le c this)
    have hlen := rowsOf_len ls its s.heap.objs.size hl
    have hne : rowsOf s.heap.objs.size ls its ≠ [] := fun e => by
      rw [e] at hlen
      simp at hlen
      omega
    refine call_list_zip (N := s.heap.objs.size) (cols := cols) (n := n) hh D hne (by omega) hn h1n (fun k hk => by rw [rowsOf_map (fun it => it[k]?) ls its _ hl]; exact hcol k hk) (fun p hp => ?_) (fun c hc => ?_) ⟨⟨?_, ?_, fun p hp => ?_⟩, .inl ⟨rfl, ?_⟩⟩ ?_ fun h' Ts c a1 a2 a3 a4 a5 => ?_
    · obtain ⟨j, a, b, c⟩ := rowsOf_mem _ _ _ _ hp
      have := (ht j _ _ a b).2
      exact Array.getElem?_eq_none (by omega)
    · rcases List.mem_cons.mp hc with m | m
      · rw [m]; exact Nat.le_trans (Nat.le_add_right _ _) (Nat.le_add_right _ _)
      rcases List.mem_cons.mp m with m | m
      · rw [m]; exact Nat.le_trans (Nat.le_add_right _ _) (Nat.le_add_right _ _)
      · obtain ⟨p, hp, e⟩ := List.mem_map.mp m
        rw [← e]
        exact (ltp p hp).1
    · rw [rowsOf_its ls its _ hl]
      exact gI
    · exact ⟨_, by rw [List.length_map, itsFrom_len, hlen], gO⟩
    · obtain ⟨j, a, b, c⟩ := rowsOf_mem _ _ _ _ hp
      obtain ⟨⟨o, ho, hc, hd⟩, _⟩ := ht j _ _ a b
      refine ⟨⟨itO p.2.1, ?_, rfl, rfl⟩, ⟨o, old _ _ (pushIts_old _ _ _ _ ho), hc, hd⟩⟩
      rw [c]
      exact old _ _ (pushIts_at ls s.heap j p.2.1 a)
    · rw [z1, z2] at gz
      exact gz
    · show s.heap.objs.size ≤ (zh5 s.heap ls).objs.size
      rw [z5]
      exact Nat.le_trans (Nat.le_add_right _ _) (Nat.le_add_right _ _)
    · refine hQ h' _ Ts c a1 ?_ a2 a3 a4 fun b o e => a5 b o (Heap.lt_size e) (old b o (pushIts_old _ _ _ _ e))
      show s.heap.objs.size ≤ (zh5 s.heap ls).objs.size
      rw [z5]
      exact Nat.le_trans (Nat.le_add_right _ _) (Nat.le_add_right _ _)
end
end KZ
set_option linter.all false
set_option maxRecDepth 100000
set_option maxHeartbeats 4000000
/-! instances, isinstance, list(zip(*rows)) -/
namespace KW
open PySem PySem.Spec PyProof.Rows L2
section
variable {X : Cx} {δ δ' : DE} {a b e o : Expr} {es : List Expr} {c : Cl} {pos apos : Pos}
/-- a field -/
theorem y_fld {C : Addr} {fs : List (Str × PyData)} {f : Str} {d : PyData} (h : Ey X e δ (.i C fs)) (hc : Cls X.K C) (hn : NoAttr X.K C f) (hl : fs.lookup f = some d) (hb : attributeBase e f X.env (eval e X.env) = eval e X.env := by rfl) : Ey X (.Attribute e f pos) δ (.d d) := fun σ H G Q eg en q =>
  leE (pe_fld peW hb) (h σ H G _ eg en fun v H1 G1 v1 o1 => by
    obtain ⟨a, dx, vs, rfl, h1, h2, _⟩ := o1
    obtain ⟨u, e1, e2⟩ := h2 f d hl
    exact ⟨a, C, dx, vs, u, rfl, v1.gh _ _ h1, hc, hn, e1, q u H1 G1 v1 e2⟩)
/-- a method that only looks -/
theorem y_meth {R : List Cl → PyData → Prop} {k : Nat} {f : Addr} {fd : FuncData} {ps : List Str} {C : Addr} {m : Str} {fs : List (Str × PyData)} {cs : List Cl} {d : PyData} {pl : Sem Bool} (F : FnOk X.prog X.w X.K X.mg X.base CX0 k f fd ps (spR X.K R)) (hr : Room k X.A) (hb : Binds X.K fd ps [])
    (hc : Cls X.K C) (hm : Meth X.K C m f) (hnf : fs.lookup m = none) (ho : Ey X o δ (.i C fs)) (ha : Ay X (e :: es) δ cs) (hR : R (.i C fs :: cs) d)
    (hst : starEach (e :: es) X.env = (false, eval e X.env) :: starEach es X.env := by rfl) (hpl : (backTo pos (starEach es X.env)).any (·.1) = false := by rfl)
    (ht : eval (.Call (.Attribute o m apos) (e :: es) [] pos) X.env = (do
      let ov ← eval o X.env
      standAt apos.atName
      let (f, first) ← holding [ov] (getMethod ov m pl)
      callWith pos f first (backTo pos (starEach (e :: es) X.env)) (backToKw pos (keywordEach [] X.env))) := by rfl) : Ey X (.Call (.Attribute o m apos) (e :: es) [] pos) δ (.d d) := fun σ H G Q eg en q =>
  leE (pe_meth (pl := pl) peW hc hm F hr hb .nil pass0 paW hst hpl ht) (ho σ H G _ eg en fun v H1 G1 v1 o1 => by
    obtain ⟨a, dx, vs, rfl, h1, h2, h3⟩ := id o1
    refine ⟨a, dx, vs, rfl, v1.gh _ _ h1, h3 m hnf, ha σ H1 G1 _ v1.gh (en.mono v1.gg) fun us H2 G2 v2 o2 => ?_⟩
    rw [List.append_nil]
    exact ⟨G2, _, d, v2.gh, .cons (cOk.mono (c := .i C fs) v2.gg o1) o2, hR, fun v H3 G3 v3 r3 => q v H3 G3 ((v1.trans v2).trans v3) r3⟩)
theorem y_meth0 {R : List Cl → PyData → Prop} {k : Nat} {f : Addr} {fd : FuncData} {ps : List Str} {C : Addr} {m : Str} {fs : List (Str × PyData)} {d : PyData} {pl : Sem Bool} (F : FnOk X.prog X.w X.K X.mg X.base CX0 k f fd ps (spR X.K R)) (hr : Room k X.A) (hb : Binds X.K fd ps [])
    (hc : Cls X.K C) (hm : Meth X.K C m f) (hnf : fs.lookup m = none) (ho : Ey X o δ (.i C fs)) (hR : R [.i C fs] d)
    (ht : eval (.Call (.Attribute o m apos) [] [] pos) X.env = (do
      let ov ← eval o X.env
      standAt apos.atName
      let (f, first) ← holding [ov] (getMethod ov m pl)
      callWith pos f first (backTo pos (starEach [] X.env)) (backToKw pos (keywordEach [] X.env))) := by rfl) : Ey X (.Call (.Attribute o m apos) [] [] pos) δ (.d d) := fun σ H G Q eg en q =>
  leE (pe_meth0 (pl := pl) peW hc hm F hr hb .nil pass0 ht) (ho σ H G _ eg en fun v H1 G1 v1 o1 => by
    obtain ⟨a, dx, vs, rfl, h1, h2, h3⟩ := id o1
    refine ⟨a, dx, vs, rfl, v1.gh _ _ h1, h3 m hnf, ?_⟩
    exact ⟨G1, _, d, v1.gh, .cons o1 .nil, hR, fun v H3 G3 v3 r3 => q v H3 G3 (v1.trans v3) r3⟩)
/-- a built-in type as a value -/
theorem y_ty {x : Str} {T : String} (hg : Gl X x) (hm : X.mg x = none) (hv : bootBuiltins x = some (.type T)) (hn : x ≠ "__name__" := by decide) (hd : (x == ("__debug__" : Str)) = false := by decide) : Ey X (.Name x pos) δ (.v (.ty T)) := fun σ H G Q eg en q =>
  leE (pe_bltn (v := .ty T) hg hm hv rfl hn hd) (q _ H G (Vx.refl eg) rfl)
def tyD : PyData → String
  | .int _ => "int"
  | .bool _ => "bool"
  | .str _ => "str"
  | .list _ => "list"
  | .tuple _ => "tuple"
  | _ => "NoneType"
theorem ty_of {K : PySem.W.Frag} {G H : Hp} {v : V} {d : PyData} (r : Rp K G v d) (e : Ex G H) : TyX K H v (.type (tyD d)) := by
  cases r with
  | non => exact .base .non
  | bl b => exact .base (.bl b)
  | int i => exact .base (.int i)
  | str x => exact .base (.str x)
  | lst h _ => exact .base (.lst (e _ _ h))
  | tup h _ =>
    rcases h with (h | ⟨o, h⟩) | h
    · exact .base (.tup (e _ _ h))
    · exact .fTuple (e _ _ h)
    · obtain ⟨o, its, n, h1, h2, _⟩ := h
      exact .kTuple h1 h2
theorem c_isi {d : PyData} {T : String} {r : Bool} (h : kitB (tyD d) T = some r) : Cy X (.builtin "isinstance") [.d d, .v (.ty T)] (.d (.bool r)) := ⟨_, call_isi, fun vs H G Q eg o q => by
  cases o with
  | cons o1 o =>
    cases o with
    | cons o2 o =>
      cases o
      have o2' : _ = V.ty T := o2
      subst o2'
      exact ⟨_, _, _, _, r, rfl, .ty T, ty_of o1 eg, kit_ty h, q _ H G (Vx.refl eg) (.bl _)⟩⟩
theorem kit1 {d : PyData} (h : tyD d = "tuple") : kitB (tyD d) "tuple" = some true := by rw [h]; decide +kernel
theorem kit2 {d : PyData} (h : tyD d = "int") : kitB (tyD d) "int" = some true := by rw [h]; decide +kernel
theorem kit3 {d : PyData} (h : tyD d = "int") : kitB (tyD d) "bool" = some false := by rw [h]; decide +kernel
/-- many new things at once -/
theorem inv_many {pins : List (Addr × Obj)} {σ : L2.St} {H H' : Hp} {s : Shared} {h' : Heap} (I : Inv X pins σ H s) (k : ∀ b o, s.heap.get? b = some o → h'.get? b = some o) (old : ∀ b o, H b = some o → H' b = some o) (low : ∀ b, b < s.heap.objs.size → H b = none → H' b = none)
    (new : ∀ b o, H b = none → H' b = some o → ObjOk X.prog X.w H' h' b o) : Inv X pins σ H' { s with heap := h', toks := s.toks } := by
  refine I.un (t' := s.toks) ⟨fun b u q _ _ _ => k b u q, fun b u q _ _ _ => ⟨u.slots, k b u q⟩, fun b u q n _ => low b (Heap.lt_size q) n, fun b u q _ => ⟨u, k b u q⟩, fun b xs q => old _ _ q, fun b o u q => old _ _ q, fun b ps q => ⟨#[], by rw [old _ _ q]; simp⟩⟩ fun b o q => ?_
  cases hb : H b with
  | none => exact new b o hb q
  | some u =>
    have e := old _ _ hb
    rw [q] at e
    cases e
    exact (I.hok b o hb).stay (fun c v _ r => k c v r) (fun c r => old _ _ r) fun c xs r => old _ _ r
def glue (H G H' : Hp) : Hp := fun b => match H b with
  | none => H' b
  | some _ => G b
theorem glue_new {H G H' : Hp} {b : Addr} (h : H b = none) : glue H G H' b = H' b := by
  unfold glue
  rw [h]
theorem Vx.ext {H G H' : Hp} (eg : Ex G H) (eh : Ex H H') : Vx H G H' (glue H G H') where
  hh := eh
  gg := fun a o h => by
    unfold glue
    rw [eg _ _ h]
    exact h
  gh := fun a o h => by
    unfold glue at h
    cases q : H a with
    | none => rw [q] at h; exact h
    | some u => rw [q] at h; exact eh _ _ (eg _ _ h)
  nw := fun a o h n => by
    unfold glue
    rw [h]
    exact n
/-- rows of tuples, seen as tuples -/
theorem rows_at {pins : List (Addr × Obj)} {σ : L2.St} {H G : Hp} {s : Shared} (I : Inv X pins σ H s) (eg : Ex G H) : ∀ {vs : List V} {rows : List (List PyData)}, RpAll X.K G vs (rows.map .tuple) →
    ∃ (ls : List Addr) (xss : List (List V)) (itss : List (List Value)), vs = ls.map V.ref ∧ xss.length = rows.length ∧ itss.length = rows.length ∧ (∀ (j : Nat) (l : Addr) (its : List Value), ls[j]? = some l → itss[j]? = some its → s.heap.IsTuple l its.toArray) ∧
      (∀ (j : Nat) (xs : List V) (its : List Value), xss[j]? = some xs → itss[j]? = some its → Vals xs its) ∧ (∀ (j : Nat) (xs : List V) (r : List PyData), xss[j]? = some xs → rows[j]? = some r → RpAll X.K G xs r)
  | vs, [], r => by
    cases r
    exact ⟨[], [], [], rfl, rfl, rfl, fun j l its e => by simp at e, fun j l its e => by simp at e, fun j l its e => by simp at e⟩
  | vs, row :: rows, r => by
    cases r with
    | cons r1 r2 =>
      obtain ⟨ls, xss, itss, e1, e2, e3, e4, e5, e6⟩ := rows_at I eg r2
      cases r1 with
      | tup h rr =>
        rename_i l xs
        obtain ⟨its, rv, tp, _⟩ := I.tuple (ex_t eg h)
        refine ⟨l :: ls, xs :: xss, its :: itss, by rw [e1]; rfl, by simp [e2], by simp [e3], fun j l' its' a b => ?_, fun j xs' its' a b => ?_, fun j xs' r' a b => ?_⟩
        · cases j with
          | zero =>
            cases a
            cases b
            obtain ⟨o, ho, hc, n, hd⟩ := tp
            exact ⟨o, ho, hc, n, hd⟩
          | succ j => exact e4 j l' its' a b
        · cases j with
          | zero =>
            cases a
            cases b
            exact rv
          | succ j => exact e5 j xs' its' a b
        · cases j with
          | zero =>
            cases a
            cases b
            exact rr
          | succ j => exact e6 j xs' r' a b
/-- columns -/
def colD (rows : List (List PyData)) (n : Nat) : List PyData := (List.range n).map fun k => .tuple (rows.map fun r => r.getD k .none)
open Classical in
noncomputable def zH (H : Hp) (S : Addr) (Ts : List Addr) (colV : Nat → List V) : Hp := fun b => match H b with
  | some o => some o
  | none => if b = S then some (.lst (Ts.map V.ref)) else if h : ∃ j : Nat, Ts[j]? = some b then some (.tup (colV h.choose)) else none
theorem nodup_at {Ts : List Addr} (nd : Ts.Nodup) {i j : Nat} {b : Addr} (h : Ts[i]? = some b) (h' : Ts[j]? = some b) : i = j := by
  have a := (List.getElem?_eq_some_iff.mp h)
  have c := (List.getElem?_eq_some_iff.mp h')
  obtain ⟨l1, e1⟩ := a
  obtain ⟨l2, e2⟩ := c
  exact (List.getElem_inj nd).mp (e1.trans e2.symm)
theorem zH_old {H : Hp} {S : Addr} {Ts : List Addr} {colV : Nat → List V} {b : Addr} {o : HO} (h : H b = some o) : zH H S Ts colV b = some o := by
  unfold zH
  rw [h]
theorem zH_S {H : Hp} {S : Addr} {Ts : List Addr} {colV : Nat → List V} (h : H S = none) : zH H S Ts colV S = some (.lst (Ts.map V.ref)) := by
  unfold zH
  rw [h]
  exact if_pos rfl
theorem zH_T {H : Hp} {S : Addr} {Ts : List Addr} {colV : Nat → List V} (nd : Ts.Nodup) {j : Nat} {T : Addr} (hj : Ts[j]? = some T) (hS : T ≠ S) (h : H T = none) : zH H S Ts colV T = some (.tup (colV j)) := by
  unfold zH
  rw [h]
  have ex : ∃ j : Nat, Ts[j]? = some T := ⟨j, hj⟩
  show (if T = S then _ else _) = _
  rw [if_neg hS, dif_pos ex, nodup_at nd ex.choose_spec hj]
theorem zH_none {H : Hp} {S : Addr} {Ts : List Addr} {colV : Nat → List V} {b : Addr} (h : H b = none) (h1 : b ≠ S) (h2 : b ∉ Ts) : zH H S Ts colV b = none := by
  unfold zH
  rw [h]
  show (if b = S then _ else _) = _
  rw [if_neg h1, dif_neg fun ⟨j, e⟩ => h2 (List.mem_of_getElem? e)]
theorem vals_refs : ∀ Ts : List Addr, Vals (Ts.map V.ref) (Ts.map Value.ref)
  | [] => .nil
  | _ :: Ts => .cons rfl (vals_refs Ts)
theorem y_listzip {p1 p2 p3 pos1 pos2 : Pos} {rows : List (List PyData)} {n : Nat} (hgl : Gl X "list") (hml : X.mg "list" = none) (hgz : Gl X "zip") (hmz : X.mg "zip" = none) (hcl : X.calm = true) (h : Ey X e δ (.d (.tuple (rows.map .tuple)))) (h1 : 1 ≤ rows.length) (h8 : rows.length ≤ 8)
    (h1n : 1 ≤ n) (hn : n ≤ 1000) (hw : ∀ r ∈ rows, r.length = n) (hs : starEach [.Call (.Name "zip" p2) [.Starred e p3] [] pos2] X.env = (false, eval (.Call (.Name "zip" p2) [.Starred e p3] [] pos2) X.env) :: starEach [] X.env := by rfl) (hst : starEach [.Starred e p3] X.env = [(true, eval e X.env)] := by rfl) :
    Ey X (.Call (.Name "list" p1) [.Call (.Name "zip" p2) [.Starred e p3] [] pos2] [] pos1) δ (.d (.list (colD rows n))) := fun σ H G Q eg en q => fun pins s I => by
  refine Call_ (ld_blt I hgl hml PyProof.Rows.boot_list (PyProof.Rows.callWith_type1 ?_ hs rfl))
  rw [hs]
  refine Calls.spliced_cons ?_
  refine Call_ (ld_blt I hgz hmz PyProof.Rows.boot_zip ?_)
  rw [hst]
  refine PySem.W.ks_call (P := fun _ => True) rfl (fun h _ => ⟨_, .inr (.inl rfl), PySem.W.Looks.of_pure rfl⟩) (PySem.W.ks_lone ?_)
  refine thn (h σ H G (fun v H1 => ∃ G1, Vx H G H1 G1 ∧ Rp X.K G1 v (.tuple (rows.map .tuple))) eg en (fun v H1 G1 v1 o1 => ⟨G1, v1, o1⟩) pins s I) fun v s1 ⟨x, H1, I1, rx, G1, v1, r1⟩ => ?_
  cases r1 with
  | tup ht r =>
    cases rx
    refine StX.star_any I1 (.inl (ex_t v1.gh ht)) fun us s2 I2 rv => ⟨True.intro, ?_⟩
    obtain ⟨ls, xss, itss, e1, e2, e3, e4, e5, e6⟩ := rows_at I2 v1.gh r
    have hll : ls.length = rows.length := by
      have := r.length
      rw [e1, List.length_map, List.length_map] at this
      exact this
    rw [e1] at rv
    have eu := refs_at rv
    subst eu
    have lenI : ∀ (j : Nat) (its : List Value), itss[j]? = some its → its.length = n := fun j its hj => by
      have l := (List.getElem?_eq_some_iff.mp hj).1
      have a1 := e5 j _ its (List.getElem?_eq_getElem (by omega)) hj
      have a2 := e6 j _ _ (List.getElem?_eq_getElem (show j < xss.length by omega)) (List.getElem?_eq_getElem (show j < rows.length by omega))
      rw [← a1.length, a2.length]
      exact hw _ (List.getElem_mem _)
    refine wpAny_mono (KZ.list_zip_all (ls := ls) (its := itss.map List.toArray) (n := n) (cols := fun k => itss.map fun its => its.getD k .none) (Q := EP X pins σ Q) (I2.ok.hd hcl) (by omega) (by omega) (by rw [List.length_map]; omega) hn h1n (fun j l it a b => ?_) (fun k hk => ?_)
      fun h' S Ts c b1 b2 b3 b4 b5 b6 => ?_) (fun z s3 hz => Calls.spliced_nil hz) fun _ _ z => z
    · rw [List.getElem?_map] at b
      cases hb : itss[j]? with
      | none => rw [hb] at b; cases b
      | some its =>
        rw [hb] at b
        cases b
        exact ⟨e4 j l its a hb, by rw [List.size_toArray]; exact lenI j its hb⟩
    · rw [List.map_map, List.map_map]
      refine List.map_congr_left fun its hits => ?_
      obtain ⟨j, hj⟩ := List.mem_iff_getElem?.mp hits
      have := lenI j its hj
      show its.toArray[k]? = some (its.getD k .none)
      rw [List.getElem?_toArray, List.getElem?_eq_getElem (by omega)]
      simp [List.getD, List.getElem?_eq_getElem (show k < its.length by omega)]
    · -- what is tracked now
      have hS0 : H1 S = none := I2.hok.fresh b2
      have hT0 : ∀ (j : Nat) (T : Addr), Ts[j]? = some T → H1 T = none := fun j T e => I2.hok.fresh (b4 j T e).2.1
      have okT : ∀ k, k < n → RpAll X.K G1 (xss.map fun xs => xs.getD k .non) (rows.map fun r => r.getD k .none) ∧ Vals (xss.map fun xs => xs.getD k .non) (itss.map fun its => its.getD k .none) := fun k hk => by
        have go : ∀ (xss : List (List V)) (itss : List (List Value)) (rows : List (List PyData)), xss.length = rows.length → itss.length = rows.length → (∀ (j : Nat) (xs : List V) (its : List Value), xss[j]? = some xs → itss[j]? = some its → Vals xs its) →
            (∀ (j : Nat) (xs : List V) (r : List PyData), xss[j]? = some xs → rows[j]? = some r → RpAll X.K G1 xs r) → (∀ r ∈ rows, r.length = n) → RpAll X.K G1 (xss.map fun xs => xs.getD k .non) (rows.map fun r => r.getD k .none) ∧ Vals (xss.map fun xs => xs.getD k .non) (itss.map fun its => its.getD k .none) := by
          intro xss
          induction xss with
          | nil =>
            intro itss rows h1 h2 _ _ _
            have r0 : rows = [] := List.length_eq_zero_iff.mp h1.symm
            subst r0
            have i0 : itss = [] := List.length_eq_zero_iff.mp h2
            subst i0
            exact ⟨.nil, .nil⟩
          | cons xs xss ih =>
            intro itss rows h1 h2 h3 h4 h5
            cases rows with
            | nil => cases h1
            | cons r rows =>
              cases itss with
              | nil => cases h2
              | cons its itss =>
                obtain ⟨i1, i2⟩ := ih itss rows (by simpa using h1) (by simpa using h2) (fun j a b e1 e2 => h3 (j + 1) a b e1 e2) (fun j a b e1 e2 => h4 (j + 1) a b e1 e2) fun r hr => h5 r (List.mem_cons_of_mem _ hr)
                have v0 := h3 0 xs its rfl rfl
                have r0 := h4 0 xs r rfl rfl
                have lr := h5 r List.mem_cons_self
                have kr : k < r.length := by omega
                obtain ⟨x, ex, rx⟩ := r0.get (List.getElem?_eq_getElem kr)
                obtain ⟨u, eu, ru⟩ := v0.get ex
                refine ⟨.cons ?_ i1, .cons ?_ i2⟩
                · show Rp X.K G1 (xs.getD k .non) (r.getD k .none)
                  rw [List.getD_eq_getElem?_getD, List.getD_eq_getElem?_getD, ex, List.getElem?_eq_getElem kr]
                  exact rx
                · show RelV (xs.getD k .non) (its.getD k .none)
                  rw [List.getD_eq_getElem?_getD, List.getD_eq_getElem?_getD, ex, eu]
                  exact ru
        exact go xss itss rows e2 e3 e5 e6 hw
      have sz : sizeLine ≥ 1000 := by decide
      refine ⟨.ref S, zH H1 S Ts fun k => xss.map fun xs => xs.getD k .non, inv_many I2 b6 (fun b o e => zH_old e) (fun b hb e => zH_none e (fun z => by rw [z] at hb; exact absurd b2 (Nat.not_le_of_lt hb)) (fun m => ?_)) (fun b o e1 e2 => ?_), rfl, ?_⟩
      · obtain ⟨j, hj⟩ := List.mem_iff_getElem?.mp m
        exact absurd (b4 j b hj).2.1 (Nat.not_le_of_lt hb)
      · by_cases hbS : b = S
        · rw [hbS, zH_S hS0] at e2
          cases e2
          rw [hbS]
          exact ⟨by rw [List.length_map]; omega, Ts.map Value.ref, c, vals_refs Ts, b3⟩
        · by_cases hbT : b ∈ Ts
          · obtain ⟨j, hj⟩ := List.mem_iff_getElem?.mp hbT
            rw [zH_T b5 hj hbS e1] at e2
            cases e2
            have jn : j < n := by
              have := (List.getElem?_eq_some_iff.mp hj).1
              omega
            obtain ⟨_, vv⟩ := okT j jn
            refine ⟨by rw [List.length_map]; omega, _, vv, _, (b4 j b hj).1, rfl, _, rfl⟩
          · rw [zH_none e1 hbS hbT] at e2
            cases e2
      · have eH : Ex H1 (zH H1 S Ts fun k => xss.map fun xs => xs.getD k .non) := fun a o h => zH_old h
        have vx := Vx.ext v1.gh eH
        refine q _ _ _ (v1.trans vx) (Rp.lst (xs := Ts.map V.ref) ?_ ?_)
        · rw [glue_new hS0, zH_S hS0]
        · have go : ∀ (k : Nat) (Us : List Addr), (∀ (j : Nat) (T : Addr), Us[j]? = some T → Ts[k + j]? = some T) → k + Us.length = n → RpAll X.K (glue H1 G1 (zH H1 S Ts fun k => xss.map fun xs => xs.getD k .non)) (Us.map V.ref) ((List.range' k Us.length).map fun k => .tuple (rows.map fun r => r.getD k .none)) := by
            intro k Us
            induction Us generalizing k with
            | nil => intro _ _; exact .nil
            | cons T Us ih =>
              intro h0 hk
              rw [List.length_cons] at hk
              rw [List.length_cons, List.range'_succ, List.map_cons, List.map_cons]
              refine .cons ?_ (ih (k + 1) (fun j T e => by have := h0 (j + 1) T e; rwa [show k + (j + 1) = k + 1 + j by omega] at this) (by omega))
              have hT := h0 0 T rfl
              rw [Nat.add_zero] at hT
              refine Rp.tup (SqT.of ?_) ((okT k (by omega)).1.mono vx.gg)
              rw [glue_new (hT0 _ _ hT), zH_T b5 hT (b4 _ _ hT).2.2 (hT0 _ _ hT)]
          have := go 0 Ts (fun j T e => by rw [Nat.zero_add]; exact e) (by omega)
          rw [b1, ← List.range_eq_range'] at this
          exact this
end
end KW
set_option linter.all false
set_option maxRecDepth 100000
set_option maxHeartbeats 4000000
/-! enumerate(tuple) -/
namespace KW
open PySem PySem.Spec PyProof.Rows L2
theorem draw_tup {prog : Program} {w : World} {A : Around} {it l : Addr} {items : Array Value} (hh : A.handled = none) (hne : it ≠ l) : Draws prog w A it [it, l] items.size (fun i x => items[i]? = some x) (fun i h => h.IsTupleIter it l i ∧ h.IsTuple l items) where
  live := fun i h st => let ⟨⟨o, e, _⟩, _⟩ := st; ⟨o, e⟩
  frame := fun i h h' st k => let ⟨a, ⟨o, e, r⟩⟩ := st; ⟨a.at fun o q => k it (by simp) o q, ⟨o, k l (by simp) o e, r⟩⟩
  item := fun i s Q E hi st hQ => RZ.nextOf_tuple_item st.1 st.2 (Array.getElem?_eq_getElem hi) fun h' a b => hQ _ h' s.toks (Array.getElem?_eq_getElem hi) ⟨a, st.2.extBut b.extBut (Ne.symm hne)⟩ b
  done := fun s Q E st hE => RZ.nextOf_tuple_end hh st.1 st.2 (Array.getElem?_eq_none (Nat.le_refl _)) fun h' e a b => hE h' e a b
set_option maxHeartbeats 8000000 in
theorem meets_enumT (l : Addr) (items : Array Value) :
    Meets (Builtin.«enumerate.__new__» ⟨[.type "enumerate", .ref l], []⟩) (fun _ R s => s.heap.IsTuple l items ∧
      R (.ok (.ret (.ref (s.heap.push { cls := .type "tuple_iterator", data := .fields #[.ref l, .int 0 0] }).objs.size)))
        { s with heap := (s.heap.push { cls := .type "tuple_iterator", data := .fields #[.ref l, .int 0 0] }).push { cls := .type "enumerate", data := .fields #[.none, .bool false, .ref s.heap.objs.size, rawInt 0, .none, .none] } }) :=
  .of_wp fun prog w A R s h => by
    obtain ⟨hp, g, d, tk, os⟩ := s
    obtain ⟨hT, h⟩ := h
    have hsub := sub_enumerate
    have hL : Heap.IsTuple (Shared.heap ⟨hp, g, d, tk, os⟩) l items := hT
    wp_walk using wpAny_pyIter_tuple hL
    refine wpAny_stack_any fun st => wpAny_pure ?_
    split
    · rename_i c _ _ _ _ _
      cases (c == Value.type "enumerate")
      · wp_walk using wpAny_pyIter_tuple hL
        exact ⟨_, rfl, h⟩
      · wp_walk using wpAny_pyIter_tuple hL
        exact ⟨_, rfl, h⟩
    · wp_walk using wpAny_pyIter_tuple hL
      exact ⟨_, rfl, h⟩
theorem call_enumT {prog : Program} {w : World} {A : Around} {E : Value → Shared → Prop} {s : Shared} {l : Addr} {items : Array Value} {Q : Value → Shared → Prop} (hL : s.heap.IsTuple l items)
    (h : ∀ h', IsEnum h' (s.heap.objs.size + 1) s.heap.objs.size 0 .none → h'.IsTupleIter s.heap.objs.size l 0 → h'.objs.size = s.heap.objs.size + 2 → (∀ b o, s.heap.get? b = some o → h'.get? b = some o) → Q (.ref (s.heap.objs.size + 1)) { s with heap := h' }) :
    wpAny (model prog w) A (call (.type "enumerate") [.ref l]) Q E s := by
  refine callType_new F.called_enumerate (by decide) (F.typeCall_enumerate_1 _) (F.newCall_enumerate_1 _) (fun obj => F.args_object_init_2 obj _) F.entry_enumerate_new (meets_enumT l items) ⟨hL, ?_⟩
  have z1 : (s.heap.push { cls := .type "tuple_iterator", data := .fields #[.ref l, .int 0 0] }).objs.size = s.heap.objs.size + 1 := Heap.size_push ..
  show _ ∧ _
  rw [z1]
  have he := Heap.get?_push_size (s.heap.push { cls := .type "tuple_iterator", data := .fields #[.ref l, .int 0 0] }) (o := { cls := .type "enumerate", data := .fields #[.none, .bool false, .ref s.heap.objs.size, rawInt 0, .none, .none] }) rfl
  rw [z1] at he
  exact ⟨⟨_, he, rfl⟩, h _ he ⟨_, Heap.get?_push_of_some _ (Heap.get?_push_size _ rfl), rfl, rfl⟩ (by rw [Heap.size_push, z1]) fun b o x => Heap.get?_push_of_some _ (Heap.get?_push_of_some _ x)⟩
/-- the tuple at a, its items in new pairs -/
def IteT (K : PySem.W.Frag) (a : Addr) : It :=
  ⟨fun i H => ∃ (xs : List V) (x : V), SqT K H a xs ∧ xs[i]? = some x, fun i H v H' => ∃ T x, v = .ref T ∧ H T = none ∧ H' = upd H T (.tup [.int (i : Nat), x]) ∧ ∀ xs, SqT K H a xs → xs[i]? = some x, fun i H => ∃ xs : List V, SqT K H a xs ∧ xs.length ≤ i⟩
theorem turn_enumT {P : Program} {w : World} {K : PySem.W.Frag} {elts : List Expr} {kk : Nat} {tpos : Pos} (a e it : Addr) :
    Turn P w K (.Tuple elts kk tpos) (IteT K a) [e, it] e (fun i h => (∃ old, IsEnum h e it ((i : Nat) : Int) old) ∧ h.IsTupleIter it a i ∧ e ≠ it ∧ it ≠ a ∧ e ≠ a) where
  mem := by simp
  obj := fun i h st b hb => by
    obtain ⟨⟨old, he⟩, ⟨o, ho, hc, hd⟩, _⟩ := st
    have e' : b = e ∨ b = it := by simpa using hb
    rcases e' with z | z
    · rw [z]; exact ⟨_, he, fun v q => nomatch q⟩
    · rw [z]; exact ⟨o, ho, fun v q => by rw [hd] at q; cases q⟩
  keep := fun i h h' st k => let ⟨⟨old, he⟩, hi, hne⟩ := st; ⟨⟨old, k e (by simp) _ he⟩, hi.at fun o q => k it (by simp) o q, hne⟩
  item := by
    intro X hP hw hK hc i pins s σ H E I hf st hg
    subst hP hw hK
    obtain ⟨⟨old, he⟩, hit, hne, n2, n3⟩ := st
    obtain ⟨xs, x, hq, hx⟩ := hg
    obtain ⟨its, rv, p, hz⟩ := I.tuple hq
    obtain ⟨u, hu, ru⟩ := rv.get hx
    have hel : e < s.heap.objs.size := Heap.lt_size he
    have hil : it < s.heap.objs.size := by obtain ⟨_, q, _⟩ := hit; exact Heap.lt_size q
    have hIT : s.heap.IsTuple a its.toArray := p
    have hii : its.toArray[i]? = some u := by simpa using hu
    have hlt : i < its.toArray.size := by
      obtain ⟨l, _⟩ := Array.getElem?_eq_some_iff.mp hii
      exact l
    refine wpAny_pyNext_enum_itemD (draw_tup (A := X.A.in1) (I.ok.hd hc) n2) he ⟨hit, hIT⟩ hlt hne (by simp [hne, n3]) fun y h' tk hy ho hs' hT hsz hk => ?_
    rw [hii] at hy
    cases hy
    refine ⟨_, rfl, wpAny_letOwnedTupleGo_enum (s := { s with heap := h', toks := tk + 1 }) ho fun h'' he' sb => ?_⟩
    have hT2 : h''.get? s.heap.objs.size = some { cls := .type "tuple", data := .seq #[.int i tk, u] } := (sb.2 _ (Nat.ne_of_gt hel)).trans hT
    have new : ObjOk X.prog X.w (upd H s.heap.objs.size (.tup [.int (i : Nat), x])) h'' s.heap.objs.size (.tup [.int (i : Nat), x]) :=
      ⟨by show 2 ≤ sizeLine; decide, [.int i tk, u], .cons ⟨_, rfl⟩ (.cons ru .nil), ⟨_, hT2, rfl, _, rfl⟩⟩
    have I1 : Inv X pins σ (upd H s.heap.objs.size (.tup [.int (i : Nat), x])) { s with heap := h'', toks := tk + 1 } :=
      I.turnedNew (ch := [e, it]) (fun b ob hb q => (sb.2 b (fun z => hb (by simp [z]))).trans (hk b ob (fun z => hb (by simp [z])) (fun z => hb (by simp [z])) q)) hf (Nat.le_refl _) new
    refine ⟨.ref s.heap.objs.size, _, I1, rfl, ⟨_, x, rfl, I.hok.fresh (Nat.le_refl _), rfl, fun ys hy => by rw [I.tuple_inj hy hq]; exact hx⟩, ⟨⟨u, ?_⟩, hs'.1.at fun o q => (sb.2 it (Ne.symm hne)).trans q, hne, n2, n3⟩, fun b hb => ?_⟩
    · have e1 : ((i + 1 : Nat) : Int) = (i : Int) + 1 := by omega
      rw [e1]; exact he'
    · have hb' : b < s.heap.objs.size := by
        have e' : b = e ∨ b = it := by simpa using hb
        rcases e' with z | z
        · rw [z]; exact hel
        · rw [z]; exact hil
      rw [upd_ne (Nat.ne_of_lt hb')]
      exact (hf b hb).1
  done := by
    intro X hP hw hK hc i pins s σ H E I hf st hg
    subst hP hw hK
    obtain ⟨⟨old, he⟩, hit, hne, n2, n3⟩ := st
    obtain ⟨xs, hq, hx⟩ := hg
    obtain ⟨its, rv, p, hz⟩ := I.tuple hq
    obtain ⟨f0, f1, f2, f3, f4, f5⟩ := hf it (by simp)
    have hl := rv.length
    have hT : s.TypeIs (.ref e) "enumerate" := ⟨_, he, rfl⟩
    unfold pyNext
    refine wpAny_bind (wpAny_attempt (wpAny_callSpecial?_slot (name := Str.ofString "__next__") hT F.slot_enumerate_next
      (wpAny_call_entry F.slot_enumerate_next hT F.entry_enumerate_next ?_ (F.args_enumerate_next_1 _))))
    show wpAny _ _ (field (.ref e) 2 >>= _) _ _ _
    refine wpAny_bind (wpAny_field he rfl (x := .ref it) rfl ?_)
    refine wpAny_bind (RZ.nextOf_tuple_end (I.ok.hd hc) hit p (Array.getElem?_eq_none (by rw [List.size_toArray]; omega)) fun h' x eb hx' => ?_)
    obtain ⟨o, ho, hcl⟩ := hx'
    refine wpAny_bind (wpAny_isInstance (T := "StopIteration") (b := true) ⟨o, ho, hcl⟩ isSubtype_stop ?_)
    exact wpAny_pure ⟨rfl, I.turned (t' := s.toks) (fun b o hb q => eb b o hb q) f0 f1 f3 f4 f5⟩
  self := fun A i s Q E st h => let ⟨⟨_, he⟩, _⟩ := st; wpAny_pyIter_enum he h
def iEnumT (K : PySem.W.Frag) (ta : TA) : TI := fun σ H R => ta σ H fun vs H1 => ∃ a xs, vs = [.ref a] ∧ SqT K H1 a xs ∧ R (IteT K a) H1
theorem pi_enumT {X : Cx} {e : Expr} {ta : TA} {p pos tpos : Pos} {elts : List Expr} {kk : Nat} (hg : Gl X "enumerate") (hm : X.mg "enumerate" = none) (ha : PA X [e] ta) (hs : starEach [e] X.env = [(false, eval e X.env)] := by rfl) :
    PI X (.Tuple elts kk tpos) (.Call (.Name "enumerate" p) [e] [] pos) (iEnumT X.K ta) := by
  refine ⟨fun pins s σ H R I h => ?_⟩
  refine Call_ (ld_blt I hg hm boot_enumerate (PyProof.Rows.callWith_type1 (thn (ha.run pos pins s σ H _ I h) fun us s1 ⟨vs, H1, I1, r1, q1⟩ => ?_) hs rfl))
  obtain ⟨a, xs, ex, hq, q⟩ := q1
  subst ex
  cases r1 with
  | cons r rr =>
    cases rr
    cases r
    obtain ⟨its, rv, p', hz⟩ := I1.tuple hq
    have la : a < s1.heap.objs.size := by
      obtain ⟨o, ho, _⟩ := p'
      exact Heap.lt_size ho
    refine call_enumT p' fun h' he hit hsz hk => wpAny_pyIter_enum he ?_
    have I2 : Inv X pins σ H1 { s1 with heap := h' } := I1.kept (t' := s1.toks) hk
    refine ⟨s1.heap.objs.size + 1, [s1.heap.objs.size + 1, s1.heap.objs.size], _, _, H1, rfl, I2, turn_enumT a (s1.heap.objs.size + 1) s1.heap.objs.size, ⟨⟨.none, he⟩, hit, Nat.succ_ne_self _, Nat.ne_of_gt la, Nat.ne_of_gt (Nat.lt_succ_of_lt la)⟩, fun b hb => ?_, q⟩
    have e' : b = s1.heap.objs.size + 1 ∨ b = s1.heap.objs.size := by simpa using hb
    have hle : s1.heap.objs.size ≤ b := by
      rcases e' with z | z
      · rw [z]; exact Nat.le_add_right _ _
      · rw [z]; exact Nat.le_refl _
    exact I1.fpOk hle (I1.hok.fresh hle)
theorem iteT_ok {K : PySem.W.Frag} {p : Addr} {xs : List V} {G1 : Hp} {ds : List PyData} (h : SqT K G1 p xs) (r : RpAll K G1 xs ds) : ItOk K (IteT K p) G1 (enumD ds) where
  go := fun i d H G e1 e2 q => by
    obtain ⟨e, qe, _⟩ := enumD_at q
    obtain ⟨v, ev, _⟩ := r.get qe
    exact ⟨xs, v, ex_t e2 (ex_t e1 h), ev⟩
  yld := fun i d H G x H' e1 e2 q y => by
    obtain ⟨e, qe, rfl⟩ := enumD_at q
    obtain ⟨v, ev, rv⟩ := r.get qe
    obtain ⟨T, w, rfl, hT, rfl, y⟩ := y
    have e3 := y xs (ex_t e2 (ex_t e1 h))
    rw [ev] at e3
    cases e3
    exact new_pair e2 hT (.int _) (rv.mono e1)
  stop := fun i H G e1 e2 q => ⟨xs, ex_t e2 (ex_t e1 h), by rw [r.length, ← enumD_len]; exact q⟩
theorem i_enumT {X : Cx} {δ : DE} {a : Expr} {pos : Pos} {ds : List PyData} {p tpos : Pos} {elts : List Expr} {kk : Nat} (hg : Gl X "enumerate") (hm : X.mg "enumerate" = none) (h : Ey X a δ (.d (.tuple ds))) (hs : starEach [a] X.env = [(false, eval a X.env)] := by rfl) : Iy X (.Tuple elts kk tpos) (.Call (.Name "enumerate" p) [a] [] pos) δ (enumD ds) :=
  ⟨iEnumT X.K (tWA X [a]), pi_enumT hg hm paW hs, fun σ H G R eg en q => a_cons h a_nil (by rw [hs]; rfl) σ H G _ eg en fun vs H1 G1 v1 o1 => by
    cases o1 with
    | cons o1 r =>
      cases r
      have o : Rp X.K G1 _ (.tuple ds) := o1
      cases o with
      | tup hp r => exact ⟨_, _, rfl, ex_t v1.gh hp, q _ H1 G1 v1 (iteT_ok hp r)⟩⟩
end KW
set_option linter.all false
set_option maxRecDepth 100000
set_option maxHeartbeats 4000000
/-! t[::-1], t * k, list(range(n)), dict(pairs), d.get, min of pairs -/
namespace KW
open PySem PySem.Spec PyProof.Rows L2
theorem adjust_rev (n : Nat) : Builtin.Slice.sliceAdjust none none (-1) (n : Int) = ((n : Int) - 1, -1) := by
  unfold Builtin.Slice.sliceAdjust
  simp
theorem places_rev (n : Nat) : Builtin.Slice.slicePlaces ((n : Int) - 1) (-1) (-1) = n := by
  unfold Builtin.Slice.slicePlaces
  simp
  omega
theorem applied_rev {prog : Program} {w : World} {A : Around} {E : Value → Shared → Prop} {s : Shared} {sl : Addr} {vk : Value} {n : Nat} {Q : Int × Int × Nat → Shared → Prop} (hs : s.heap.IsSliceOf sl .none .none vk) (pk : IsPart vk (some (-1)))
    (h : Q ((n : Int) - 1, -1, n) s) : wpAny (model prog w) A (Builtin.Slice.sliceApplied (.ref sl) (pure (n : Int))) Q E s := by
  obtain ⟨os, hos, hcs, hds⟩ := id hs
  unfold Builtin.Slice.sliceApplied Builtin.Slice.sliceFields
  refine wpAny_bind (wpAny_bind (wpAny_field hos hds (x := .none) rfl (wpAny_bind (wpAny_field hos hds (x := .none) rfl (wpAny_bind (wpAny_field hos hds (x := vk) rfl (wpAny_pure ?_)))))))
  refine wpAny_bind (HT.slicePart_ pk ?_)
  show wpAny _ _ (if ((-1 : Int) == 0) = true then _ else _) _ _ s
  rw [if_neg (by decide)]
  refine wpAny_bind (slicePart_none (wpAny_bind (slicePart_none (wpAny_bind (wpAny_pure ?_)))))
  show wpAny _ _ (match Builtin.Slice.sliceAdjust none none (-1) (n : Int) with | (lo, hi) => pure (lo, (-1 : Int), Builtin.Slice.slicePlaces lo hi (-1))) _ _ s
  rw [adjust_rev n]
  show wpAny _ _ (pure ((n : Int) - 1, (-1 : Int), Builtin.Slice.slicePlaces ((n : Int) - 1) (-1) (-1))) _ _ s
  rw [places_rev]
  exact wpAny_pure h
theorem fm_congr {α β : Type} {f g : α → Option β} : ∀ {l : List α}, (∀ a ∈ l, f a = g a) → l.filterMap f = l.filterMap g
  | [], _ => rfl
  | a :: l, h => by
    rw [List.filterMap_cons, List.filterMap_cons, h a List.mem_cons_self, fm_congr fun b hb => h b (List.mem_cons_of_mem _ hb)]
theorem pick_rev (xs : Array Value) : ((List.range xs.size).filterMap fun (m : Nat) => xs[(((xs.size : Int) - 1) + (m : Int) * (-1)).toNat]?).toArray = xs.toList.reverse.toArray := by
  have e : (List.range xs.size).filterMap (fun (m : Nat) => xs[(((xs.size : Int) - 1) + (m : Int) * (-1)).toNat]?) = ((List.range xs.size).map fun m => xs.size - 1 - m).filterMap (xs[·]?) := by
    rw [List.filterMap_map]
    refine fm_congr fun m hm => ?_
    have := List.mem_range.mp hm
    show xs[_]? = xs[xs.size - 1 - m]?
    rw [show (((xs.size : Int) - 1) + (m : Int) * (-1)).toNat = xs.size - 1 - m by omega]
  rw [e, PySem.W.krv_range, List.filterMap_reverse, PySem.W.krv_all]
theorem getItem_tup_rev {prog : Program} {w : World} {A : Around} {E : Value → Shared → Prop} {s : Shared} {t sl : Addr} {items : Array Value} {vk : Value} {Q : Value → Shared → Prop} (ht : IsTup s.heap t items) (hs : s.heap.IsSliceOf sl .none .none vk) (pk : IsPart vk (some (-1)))
    (h : Q (.ref s.heap.objs.size) { s with heap := s.heap.push { cls := .type "tuple", data := .seq items.toList.reverse.toArray } }) (hsz : items.size ≤ sizeLine) : wpAny (model prog w) A (getItem (.ref t) (.ref sl)) Q E s := by
  have hok : sizeOk (.seq items.toList.reverse.toArray) := by
    show items.toList.reverse.toArray.size ≤ sizeLine
    rw [List.size_toArray, List.length_reverse, Array.length_toList]
    exact hsz
  obtain ⟨os, hos, hcs, hds⟩ := id hs
  have hTs : s.TypeIs (.ref sl) "slice" := ⟨os, hos, hcs⟩
  unfold getItem
  try with_reducible refine wpAny_holding ?_
  first | refine wpAny_bind (wpAny_pure ?_) | skip
  refine wpAny_bind (wpAny_sequenceKey ht.typeIs (by decide) ?_)
  refine wpAny_bind (wpAny_callSpecial?_slot (name := Str.ofString "__getitem__") ht.typeIs PyProof.Rows.slot_tuple_getitem
    (wpAny_call_entry PyProof.Rows.slot_tuple_getitem ht.typeIs entry_tuple_getitem ?_ (args_tuple_getitem _ _)))
  show wpAny _ _ (Builtin.Tuple.tupleItemsOf (.ref t) >>= _) _ _ s
  refine wpAny_bind (tupleItemsOf_ ht ?_)
  refine wpAny_bind (wpAny_typeOf hTs ?_)
  rw [if_pos (by decide)]
  refine wpAny_bind (applied_rev hs pk ?_)
  have hno : ¬ ((((items.size : Int) - 1) == 0 && (-1 : Int) == 1 && items.size == items.size) = true) := by
    intro q
    rw [Bool.and_eq_true, Bool.and_eq_true] at q
    exact absurd q.1.2 (by decide)
  show wpAny _ _ (if (((items.size : Int) - 1) == 0 && (-1 : Int) == 1 && items.size == items.size) = true then _ else _) _ _ s
  rw [if_neg hno, pick_rev]
  first
    | exact wpAny_bind (m := Builtin.Tuple.tupleExact _) (wpAny_newObj_type (wpAny_pure ⟨_, rfl, wpAny_pure h⟩) hok)
    | exact wpAny_bind (m := Builtin.Tuple.tupleExact _) (wpAny_newObj_type (wpAny_bind (wpAny_pure (wpAny_pure ⟨_, rfl, wpAny_pure h⟩))) hok)
    | exact wpAny_bind (wpAny_bind (m := Builtin.Tuple.tupleExact _) (wpAny_newObj_type (wpAny_pure (wpAny_pure ⟨_, rfl, wpAny_pure h⟩)) hok))
    | exact wpAny_bind (wpAny_bind (m := Builtin.Tuple.tupleExact _) (wpAny_newObj_type (wpAny_pure ⟨_, rfl, wpAny_pure h⟩) hok))
section
variable {X : Cx} {δ δ' : DE} {a b e o : Expr} {es : List Expr} {c : Cl} {pos apos : Pos}
theorem y_revT {ds : List PyData} {k : Nat} {p1 p2 p3 : Pos} (h : Ey X e δ (.d (.tuple ds))) : Ey X (.Subscript e (.Slice none none (some (.UnaryOp .USub (.Constant (.int 1) k p1) p2)) p3) pos) δ (.d (.tuple ds.reverse)) := fun σ H G Q eg en q => fun pins s I => by
  refine Subscript_ (thn (h σ H G (fun v H1 => ∃ G1, Vx H G H1 G1 ∧ Rp X.K G1 v (.tuple ds)) eg en (fun v H1 G1 v1 o1 => ⟨G1, v1, o1⟩) pins s I) fun v s1 ⟨x, H1, I1, r1, G1, v1, o1⟩ => ?_)
  cases o1 with
  | tup ht rr =>
    rename_i a xs
    cases r1
    have hx := ex_t v1.gh ht
    have hst : PO X (some (.UnaryOp .USub (.Constant (.int 1) k p1) p2)) (tPart (tUn (rU fun i => .int (-i)) (tC (.int 1)))) := po_some (pe_un un_neg pe_int)
    refine wpAny_Slice (thn (po_none.run pins s1 σ H1 (fun o H2 => o = none ∧ H2 = H1) I1 ⟨rfl, rfl⟩) fun vl s2 ⟨l, H2, I2, pl, el, e2⟩ => ?_)
    subst el e2
    refine thn (po_none.run pins s2 σ H2 (fun o H3 => o = none ∧ H3 = H2) I2 ⟨rfl, rfl⟩) fun vu s3 ⟨u, H3, I3, pu, eu, e3⟩ => ?_
    subst eu e3
    refine thn (hst.run pins s3 σ H3 (fun o H4 => o = some (-1) ∧ H4 = H3) I3 ⟨1, rfl, -1, rfl, rfl, rfl⟩) fun vs s4 ⟨o, H4, I4, ps, eo, e4⟩ => ?_
    subst eo e4
    cases pl
    cases pu
    have I5 : Inv X pins σ H4 { s4 with heap := s4.heap.push { cls := .type "slice", data := .fields #[.none, .none, vs] } } := I4.kept (t' := s4.toks) fun b ob q => Heap.get?_push_of_some _ q
    obtain ⟨its, r, tp, hz⟩ := I5.tuple hx
    have hlen := r.length
    show wpAny (model X.prog X.w) X.A (subscriptTail e (.Slice none none (some (.UnaryOp .USub (.Constant (.int 1) k p1) p2)) p3) (.ref a) (.ref s4.heap.objs.size)) (EP X pins σ Q) X.xe { s4 with heap := s4.heap.push { cls := .type "slice", data := .fields #[.none, .none, vs] } }
    refine tail_any (ops := [.ref a, .ref s4.heap.objs.size]) tp.typeIs (PyProof.Rows.slot_tuple_getitem.lookup) ?_ (by with_unfolding_all rfl)
    refine getItem_tup_rev tp (Heap.IsSliceOf.new _ .none .none vs) ps ?_ (by rw [List.size_toArray]; omega)
    have hp := I5.hok.fresh (Nat.le_refl _)
    refine ⟨.ref _, _, I5.laid (t' := s4.toks) (o := .tup xs.reverse) (fun b ob q => Heap.get?_push_of_some _ q) (Nat.le_refl _) ?_, rfl, q _ _ _ (v1.trans (Vx.new v1.gh hp)) (Rp.tup (SqT.of upd_same) (rr.rev.mono (Vx.new v1.gh hp).gg))⟩
    exact ⟨by rw [List.length_reverse]; exact hz, _, r.reverse, IsTup.new _ _⟩
end
end KW
set_option linter.all false
set_option maxRecDepth 100000
set_option maxHeartbeats 4000000
/-! min of pairs, dict, t * k, list(range(n)) -/
namespace KW
open PySem PySem.Spec PyProof.Rows L2
section
variable {X : Cx} {δ δ' : DE} {a b e f o : Expr} {es : List Expr} {c : Cl} {pos apos cpos : Pos}
/-- pairs of ints -/
def pairD (p : Int × Int) : PyData := .tuple [.int p.1, .int p.2]
def leP (p q : Int × Int) : Bool := decide (p.1 < q.1 ∨ (p.1 = q.1 ∧ p.2 < q.2))
def minP (p : Int × Int) (ps : List (Int × Int)) : Int × Int := ps.foldl (fun a y => if leP y a then y else a) p
theorem minP_eq (p : Int × Int) : ∀ ps : List (Int × Int), PySem.W.minD (pairD p) (ps.map pairD) = pairD (minP p ps) := by
  intro ps
  unfold PySem.W.minD minP
  induction ps generalizing p with
  | nil => rfl
  | cons q ps ih =>
    rw [List.map_cons, List.foldl_cons, List.foldl_cons]
    have e : PySem.W.dataLt (pairD q) (pairD p) = leP q p := PySem.W.dataLt_ii q.1 q.2 p.1 p.2
    rw [e]
    cases leP q p with
    | true => exact ih q
    | false => exact ih p
theorem alike_pairs (ps : List (Int × Int)) : PySem.W.AlikeAll (ps.map pairD) := by
  refine ⟨fun x hx y hy => ?_, fun x hx => ?_⟩
  · obtain ⟨p, _, rfl⟩ := List.mem_map.mp hx
    obtain ⟨q, _, rfl⟩ := List.mem_map.mp hy
    rfl
  · obtain ⟨p, _, rfl⟩ := List.mem_map.mp hx
    exact fun z => by cases z
theorem depth_pairs : ∀ ps : List (Int × Int), PyData.depthAll (ps.map pairD) ≤ 2
  | [] => by decide
  | p :: ps => by
    have := depth_pairs ps
    show max (pairD p).depth (PyData.depthAll (ps.map pairD)) ≤ 2
    have e : (pairD p).depth ≤ 2 := by
      show PyData.depth (.tuple [.int p.1, .int p.2]) ≤ 2
      simp [PyData.depth, PyData.depthAll]
    omega
theorem c_minP {p : Int × Int} {ps : List (Int × Int)} (hcl : X.calm = true) (hu : X.A.units + 64 < cLine) : Cy X (.builtin "min") [.d (.list ((p :: ps).map pairD))] (.d (pairD (minP p ps))) := by
  refine ⟨fun vs H Q => ∃ (a : Addr) (xs : List V) (G : Hp), Ex G H ∧ vs = [.ref a] ∧ SqL X.K H a xs ∧ RpAll X.K G xs ((p :: ps).map pairD) ∧ ∀ (i : Nat) (x : V), xs[i]? = some x → Rp X.K G x (pairD (minP p ps)) → Q x H, ?_, fun vs H G Q eg o q => ?_⟩
  · intro pins s σ H xs us Q I r h
    obtain ⟨a, ys, G, eg, rfl, hL, ra, q⟩ := h
    obtain ⟨u, rfl, ru⟩ := vals1 r
    cases ru
    obtain ⟨its, rv, pl, hz⟩ := I.list hL
    have dpa : ∀ {vs : List V} {ds : List PyData}, RpAll X.K G vs ds → DpAll X.K H vs ds := fun h => (RpAll.mono eg h).dp
    obtain ⟨as, hr⟩ := Dp.readsAll I ((p :: ps).map pairD) ys its (dpa ra) rv
    have hd := depth_pairs (p :: ps)
    refine PySem.W.min_list_data (x := pairD p) (xs := ps.map pairD) (I.ok.hd hcl) pl.isList (by simpa using hr) (alike_pairs (p :: ps)) (by have : PyData.depthAll (pairD p :: ps.map pairD) ≤ 2 := hd; omega) fun i v h' tk bs hv hrd hk => ?_
    have hvi : its[i]? = some v := by simpa using hv
    have li : i < ys.length := by
      rw [rv.length]
      exact (List.getElem?_eq_some_iff.mp hvi).1
    obtain ⟨u, hu', ru⟩ := rv.get (List.getElem?_eq_getElem li)
    rw [hvi] at hu'
    cases hu'
    obtain ⟨d, hd', rd⟩ := ra.get' (List.getElem?_eq_getElem li)
    obtain ⟨cs, hrc⟩ := Dp.reads I d _ _ ((Rp.mono eg rd).dp) ru
    have ed := (reads_det (fun b o e _ => hk b o e) hrc hrd).1
    rw [minP_eq] at ed
    refine ⟨ys[i], H, I.kept (t' := tk) hk, ru, q i _ (List.getElem?_eq_getElem li) ?_⟩
    rw [ed]
    exact rd
  · cases o with
    | cons o1 o =>
      cases o
      have o1' : Rp X.K G _ (.list ((p :: ps).map pairD)) := o1
      cases o1' with
      | lst hp r => exact ⟨_, _, G, eg, rfl, SqL.of (eg _ _ hp), r, fun i x _ rx => q x H G (Vx.refl eg) rx⟩
/-- dict(pairs), the keys apart -/
def kvD (p : Int × PyData) : PyData := .tuple [.int p.1, p.2]
theorem kv_rows {K : PySem.W.Frag} {G : Hp} : ∀ {vs : List V} {kvs : List (Int × PyData)}, RpAll K G vs (kvs.map kvD) → ∃ (ps : List Addr) (ks : List (Key × V)), vs = ps.map V.ref ∧ Paired (fun p kv => SqT K G p [kV kv.1, kv.2]) ps ks ∧ KvR K G ks kvs
  | vs, [], r => by
    cases r
    exact ⟨[], [], rfl, .nil, .nil⟩
  | vs, kv :: kvs, r => by
    cases r with
    | cons r1 r2 =>
      obtain ⟨ps, ks, e1, e2, e3⟩ := kv_rows r2
      have r1' : Rp K G _ (.tuple [.int kv.1, kv.2]) := r1
      cases r1' with
      | tup ht rr =>
        cases rr with
        | cons q1 q2 =>
          cases q2 with
          | cons q2 q3 =>
            cases q3
            cases q1
            exact ⟨_ :: ps, (Sum.inl kv.1, _) :: ks, by rw [e1]; rfl, .cons ht e2, .cons q2 e3⟩
theorem kv_keys {K : PySem.W.Frag} {G : Hp} : ∀ {ks : List (Key × V)} {kvs : List (Int × PyData)}, KvR K G ks kvs → ks.map (·.1) = kvs.map fun p => Sum.inl p.1
  | _, _, .nil => rfl
  | _, _, .cons (vs := vs) (ds := ds) _ r => by
    rw [List.map_cons, List.map_cons, kv_keys r]
theorem merge_nodup : ∀ (more acc : List (Key × V)), ((acc ++ more).map (·.1)).Nodup → mergeK acc more = acc ++ more
  | [], acc, _ => by
    show acc = acc ++ []
    rw [List.append_nil]
  | p :: more, acc, nd => by
    show mergeK (putK acc p.1 p.2) more = _
    have na : p.1 ∉ acc.map (·.1) := fun m => by
      rw [List.map_append, List.map_cons] at nd
      exact (List.nodup_append.mp nd).2.2 p.1 m p.1 List.mem_cons_self rfl
    have hp : putK acc p.1 p.2 = acc ++ [p] := by
      unfold putK
      rw [if_neg]
      intro q
      obtain ⟨x, hx, e⟩ := List.any_eq_true.mp q
      have e' : x.1 = p.1 := of_decide_eq_true e
      exact na (by rw [← e']; exact List.mem_map_of_mem hx)
    rw [hp, merge_nodup more (acc ++ [p]) (by simpa using nd)]
    simp
theorem c_dict {kvs : List (Int × PyData)} (hcl : X.calm = true) (nd : (kvs.map (·.1)).Nodup) : Cy X (.type "dict") [.d (.list (kvs.map kvD))] (.m kvs) := ⟨_, call_dictP hcl, fun vs H G Q eg o q => by
  cases o with
  | cons o1 o =>
    cases o
    have o1' : Rp X.K G _ (.list (kvs.map kvD)) := o1
    cases o1' with
    | lst hp r =>
      obtain ⟨ps, ks, e1, e2, e3⟩ := kv_rows r
      subst e1
      refine ⟨_, ps, ks, rfl, SqL.of (eg _ _ hp), ?_, fun p hp2 => ?_⟩
      · clear q e3 hp r o1
        induction e2 with
        | nil => exact .nil
        | cons h _ ih => exact .cons (ex_t eg h) ih
      · have nk : ((([] : List (Key × V)) ++ ks).map (·.1)).Nodup := by
          rw [List.nil_append, kv_keys e3]
          have : (kvs.map fun p => (Sum.inl p.1 : Key)) = (kvs.map (·.1)).map Sum.inl := by rw [List.map_map] <;> rfl
          rw [this]
          exact List.Pairwise.map Sum.inl (fun a b h z => h (Sum.inl.inj z)) nd
        rw [merge_nodup ks [] nk, List.nil_append]
        have vx := Vx.new (o := .dK ks) eg hp2
        exact q _ _ _ vx ⟨p, ks, rfl, upd_same, e3.mono vx.gg⟩⟩
theorem val_kv {K : PySem.W.Frag} {G : Hp} {k : Int} : ∀ {ks : List (Key × V)} {kvs : List (Int × PyData)}, KvR K G ks kvs → (valV ks (Sum.inl k) = none ∧ kvs.lookup k = none) ∨ ∃ v d, valV ks (Sum.inl k) = some v ∧ kvs.lookup k = some d ∧ Rp K G v d
  | _, _, .nil => .inl ⟨rfl, rfl⟩
  | _, _, .cons (k := k') (v := v) (d := d) (vs := vs) (ds := ds) h r => by
    by_cases hk : k' = k
    · subst hk
      refine .inr ⟨v, d, ?_, ?_, h⟩
      · unfold valV
        rw [List.find?_cons_of_pos (by simp)]
        rfl
      · rw [List.lookup_cons, beq_self_eq_true]
    · have e1 : valV ((Sum.inl k', v) :: vs) (Sum.inl k : Key) = valV vs (Sum.inl k) := by
        unfold valV
        rw [List.find?_cons_of_neg (by simp [hk])]
      have e2 : ((k', d) :: ds).lookup k = ds.lookup k := by
        rw [List.lookup_cons]
        have : (k == k') = false := beq_eq_false_iff_ne.mpr (Ne.symm hk)
        rw [this]
      rw [e1, e2]
      exact val_kv r
theorem y_get {kvs : List (Int × PyData)} {k : Int} {z : PyData} (hu : X.A.units + 1 < cLine) (ho : Ey X o δ (.m kvs)) (he : Ey X e δ (.d (.int k))) (hf : Ey X f δ (.d z)) (m : M2 X o "get" apos e f cpos) : Ey X (.Call (.Attribute o "get" apos) [e, f] [] cpos) δ (.d ((kvs.lookup k).getD z)) := fun σ H G Q eg en q =>
  leE (pe_dget2 hu peW peW peW m) (ho σ H G _ eg en fun v H1 G1 v1 o1 => by
    obtain ⟨a, ks, rfl, h1, h2⟩ := o1
    refine ⟨a, rfl, .inl ⟨ks, .inl (v1.gh _ _ h1)⟩, he σ H1 G1 _ v1.gh (en.mono v1.gg) fun u H2 G2 v2 o2 => hf σ H2 G2 _ v2.gh ((en.mono v1.gg).mono v2.gg) fun w H3 G3 v3 o3 => ?_⟩
    have o2' : Rp X.K G2 u (.int k) := o2
    cases o2'
    have v12 := v2.trans v3
    refine ⟨valV ks (Sum.inl k), .inl ⟨ks, Sum.inl k, .inl (v12.hh _ _ (v1.gh _ _ h1)), rfl, rfl⟩, ?_⟩
    rcases val_kv (k := k) (h2.mono v12.gg) with ⟨a1, a2⟩ | ⟨v, d, a1, a2, a3⟩
    · have q' := q w H3 G3 (v1.trans v12)
      rw [a2] at q'
      rw [a1]
      exact q' o3
    · have q' := q v H3 G3 (v1.trans v12)
      rw [a2] at q'
      rw [a1]
      exact q' a3)
/-- list(range(n)) -/
theorem y_listRg {p1 p2 pos2 : Pos} {n : Int} (hcl : X.calm = true) (hgl : Gl X "list") (hml : X.mg "list" = none) (hgr : Gl X "range") (hmr : X.mg "range" = none) (h : Ey X e δ (.d (.int n))) (hn : 0 ≤ n ∧ n ≤ 1000) (na : starEach [.Call (.Name "range" p2) [e] [] pos2] X.env = (false, eval (.Call (.Name "range" p2) [e] [] pos2) X.env) :: starEach [] X.env := by rfl) (nb : starEach [e] X.env = (false, eval e X.env) :: starEach [] X.env := by rfl) :
    Ey X (.Call (.Name "list" p1) [.Call (.Name "range" p2) [e] [] pos2] [] pos) δ (.d (.list ((List.range n.toNat).map fun j => .int (j : Nat)))) := fun σ H G Q eg en q =>
  leE (pe_listRg hcl hgl hml (prg_1 hgr hmr peW nb) na) (h σ H G _ eg en fun v H1 G1 v1 o1 => by
    have o1' : Rp X.K G1 v (.int n) := o1
    cases o1'
    refine ⟨n, rfl, RgOk.of_le (by omega) (by omega) (by omega) (by omega), fun p hp => ?_⟩
    have vx := Vx.new (o := .lst (rgV 0 n)) v1.gh hp
    refine q _ _ _ (v1.trans vx) (Rp.lst upd_same ?_)
    revert vx
    intro vx
    clear vx
    generalize upd G1 p (.lst (rgV 0 n)) = G2
    unfold rgV
    have e1 : (List.range (n - 0).toNat).map (fun k : Nat => V.int (0 + (k : Nat))) = ((List.range n.toNat).map fun j => ((j : Nat) : Int)).map V.int := by
      rw [List.map_map, Int.sub_zero]
      exact List.map_congr_left fun k _ => by show V.int (0 + (k : Int)) = V.int (k : Int); rw [Int.zero_add]
    have e2 : ((List.range n.toNat).map fun j => (PyData.int (j : Nat))) = ((List.range n.toNat).map fun j => ((j : Nat) : Int)).map PyData.int := by
      rw [List.map_map]; rfl
    rw [e2]
    have := RpAll.ofInts (K := X.K) (G := G2) ((List.range n.toNat).map fun j => ((j : Nat) : Int))
    exact e1 ▸ this)
end
end KW
set_option linter.all false
set_option maxRecDepth 100000
set_option maxHeartbeats 4000000
/-! where the running guards are known: repr of a pair of ints -/
namespace KW
open PySem PySem.Spec PyProof.Rows L2
/-- a def's promise where no guard runs -/
structure FnG (P : Program) (w : World) (K : PySem.W.Frag) (mg : Str → Option Value) (base : Heap) (k : Nat) (f : Addr) (fd : FuncData) (ps : List Str) (sp : Sp) : Prop where
  len : ∀ vs H Q E, sp vs H Q E → vs.length = ps.length
  run : ∀ (A : Around) (outer : List Env) (s : Shared) (H : Hp) (args : Args) (us : List Value) (vs : List V) (Q : VK), A.guards = some [] → Room k A → Env0 P w K mg base A outer s H → BindsTo s fd args (ps.zip us) → Vals vs us → sp vs H Q E0 →
    codeAny (model P w) A (.call (.ref f) args) (CR CX0 outer P w H s Q E0) s
theorem guards_deeper {A : Around} {env : Env} (h : A.guards = some []) : (A.deeper env).guards = some [] := by
  first
  | exact h
  | (unfold Around.deeper; exact h)
/-- its rule -/
theorem Fun.okG {P : Program} {w : World} {K : PySem.W.Frag} {mg : Str → Option Value} {base : Heap} {x qual : Str} {st : Stmt} {f : Addr} {fd : FuncData} {N ps : List Str} {k : Nat} {sp : Sp} (Fu : Fun K x qual st f fd) (S : FnScope N ps (defScope st)) (len : ∀ vs H Q E, sp vs H Q E → vs.length = ps.length)
    (hbody : ∀ (cdv : Value) (A : Around) (outer : List Env) (s : Shared) (H : Hp) (vs : List V) (Q : VK), A.guards = some [] → Room k (A.deeper (envOfC qual (defScope st) s.heap.objs.size f cdv)) → sp vs H Q E0 →
      ∃ t, PSs (cxOf CX0 P w K mg base N qual (defScope st) f cdv A outer s H E0).nox (defBody st) t ∧ t { nx := fun _ H' => Q .non H', rt := Q } (start N vs) H) : FnG P w K mg base (k + 1) f fd ps sp := by
  obtain ⟨oc, od, kV, doc, pm, an, cdv, ct, osl, rfl, lk, hcd⟩ := Fu.ex
  refine ⟨len, fun A outer s H args us vs Q hg hr e0 hb r hsp => ?_⟩
  -- one place alone: the promise of that place is asked
  have one : FnOk P w K mg base CX0 (k + 1) f (PySem.W.fnOf x qual (defArgs st) (defBody st) (defScope st) .none kV doc pm an cdv ct) ps (fun vs' H' Q' E' => False) :=
    fn_of (CX := CX0) lk hcd S (fun _ _ _ _ z => z.elim) fun _ _ _ _ _ _ _ _ z => z.elim
  have hl := len _ _ _ _ hsp
  have inK : K.In s.heap := e0.mod.kin.keeps fun b o e => (e0.bs b o e).1
  have noL : s.heap.NoLimit := e0.mod.nolimit.keeps fun b o e => (e0.bs b o e).1
  have kinds : ∀ y ∈ ps.zip us, (defScope st).names.lookup y.1 = some .local ∨ ((defScope st).names.lookup y.1 = some .cell ∧ ((cellsFrom (s.heap.objs.size + 1) (defScope st).names []).lookup y.1).isSome = true) := fun y hy => by
    rcases S.par y.1 (List.of_mem_zip (a := y.1) (b := y.2) hy).1 with z | z
    · exact .inl z
    · exact .inr ⟨z, PySem.W.cellsFrom_some _ _ _ (.inl z)⟩
  refine codeAny_call_function hr.depth (inK _ _ lk) rfl S.co S.gen rfl (PySem.W.codeRec_of inK hcd) (hb _ _ _ _ ?_)
  refine wpAny_newFunctionEnv_cells S.kind kinds fun env henv s1 xc => ?_
  subst henv
  refine ⟨noL.keeps xc.toInCall.keep, codeAny_func ?_⟩
  obtain ⟨t, ht, hq⟩ := hbody cdv A outer s H vs Q hg (hr.deeper _) hsp
  have J : Inv (cxOf CX0 P w K mg base N qual (defScope st) f cdv A outer s H E0) [] (start N vs) H s1 := inv_start S hr.hd e0 hl r xc
  refine wpAny_mono (ht.nox.run [] s1 (start N vs) H _ J hq) (fun fl s' hs => ?_) fun e s' hs => hs
  cases fl with
  | ret u =>
    obtain ⟨v, σ', H', J', rv, q⟩ := hs
    exact ⟨v, H', J'.os, J'.bare, J'.base, J'.hok, rv, q⟩
  | next =>
    obtain ⟨σ', H', J', q⟩ := hs
    exact ⟨.non, H', J'.os, J'.bare, J'.base, J'.hok, rfl, q⟩
  | brk =>
    obtain ⟨_, _, _, q⟩ := hs
    exact False.elim q
  | cont =>
    obtain ⟨_, _, _, q⟩ := hs
    exact False.elim q
section
variable {X : Cx} {δ δ' : DE} {a b e f o : Expr} {es : List Expr} {c : Cl} {pos apos cpos p : Pos}
/-- its call -/
theorem pe_callG {k : Nat} {f : Addr} {fd : FuncData} {ps : List Str} {sp : Sp} {x : Str} {t : TA} (Fg : FnG X.prog X.w X.K X.mg X.base k f fd ps sp) (hgd : X.A.guards = some []) (hr : Room k X.A) (hg : Gl X x) (hm : X.mg x = some (.ref f)) (hk : PySem.W.keepIn X.K (.ref f) = true) (hb : Binds X.K fd ps [])
    (ha : PA X (e :: es) t) (hdb : (x == ("__debug__" : Str)) = false := by decide) (he : starEach (e :: es) X.env = (false, eval e X.env) :: starEach es X.env := by rfl) (hpl : (backTo pos (starEach es X.env)).any (·.1) = false := by rfl) :
    PE X (.Call (.Name x p) (e :: es) [] pos) (tCall sp [] E0 t) := by
  refine ⟨fun pins s σ H Q I h => wpAny_Call_Name_kw (ld_glob I hg hm ?_ hdb)⟩
  refine PySem.W.callWith_K (h₀ := X.base) I.ok.mod.kin hk (thn (ha.run pos pins s σ H _ I h) fun us s1 ⟨vs, H1, I1, r, q⟩ => ⟨I1.kIn, ?_⟩) he hpl
  have r2 : Vals (vs ++ []) (us ++ []) := r.append .nil
  have hl : (us ++ []).length = ps.length := by rw [← r2.length]; exact Fg.len _ _ _ _ q
  refine wpAny_call (codeAny_mono (Fg.run X.A X.stack s1 H1 ⟨us, []⟩ (us ++ []) (vs ++ []) Q hgd hr I1.env0 (hb s1 us I1.kIn hl) r2 q) fun r s' hq => ?_)
  cases r with
  | error e => exact False.elim hq
  | ok fl =>
    cases fl with
    | ret u => exact I1.after hq
    | next => exact False.elim hq
    | brk => exact False.elim hq
    | cont => exact False.elim hq
/-- repr of a pair of ints -/
def shownP (i j : Int) : Str := (PyData.tuple [.int i, .int j]).shown
theorem c_reprP {i j : Int} (hgd : X.A.guards = some []) (hu : X.A.units + 64 < cLine) (hi : i.natAbs.log2 < 1920) (hj : j.natAbs.log2 < 1920) : Cy X (.builtin "repr") [.d (.tuple [.int i, .int j])] (.d (.str (shownP i j))) := by
  refine ⟨fun vs H Q => ∃ (v : V) (G : Hp), Ex G H ∧ vs = [v] ∧ Rp X.K G v (.tuple [.int i, .int j]) ∧ Q (.str (shownP i j)) H, ?_, fun vs H G Q eg o q => ?_⟩
  · intro pins s σ H xs us Q I r h
    obtain ⟨v, G, eg, rfl, rd, q⟩ := h
    obtain ⟨u, rfl, ru⟩ := vals1 r
    obtain ⟨as, hr⟩ := Dp.reads I _ _ _ (Rp.mono eg rd).dp ru
    cases rd with
    | tup ht rr =>
      cases ru
      refine repr_of_reads' hr ?_ ?_ hgd ?_ (fun _ _ z => z) (fun h' u tk hk => ⟨.str _, H, I.kept (t' := tk) hk, ⟨u, rfl⟩, q⟩) ?_
      · simp [PyData.showable, PyData.showableAll, hi, hj]
      · intro z
        simp [PyData.hasDict, PyData.hasDictAll] at z
      · have : PyData.depth (.tuple [.int i, .int j]) ≤ 2 := by simp [PyData.depth, PyData.depthAll]
        omega
      · have e1 := int_text_len_1921 hi
        have e2 := int_text_len_1921 hj
        have e3 := fmt_text [PySem.Str.ofString (toString i), PySem.Str.ofString (toString j)]
        rw [piled_cons, piled_cons, piled_nil] at e3
        have sz : sizeLine ≥ 5000 := by decide
        show (tupleText [PySem.Str.ofString (toString i), PySem.Str.ofString (toString j)]).length ≤ sizeLine
        omega
  · cases o with
    | cons o1 o =>
      cases o
      exact ⟨_, G, eg, rfl, o1, q _ H G (Vx.refl eg) (.str _)⟩
end
end KW
set_option linter.all false
set_option maxRecDepth 100000
set_option maxHeartbeats 4000000
/-! comprehensions in short; lists that grow in a loop -/
namespace KW
open PySem PySem.Spec PyProof.Rows L2
section
variable {X : Cx} {δ δ' : DE} {elt iter t : Expr} {scope : Scope} {pos px p1 p2 tpos : Pos} {ds rs : List PyData} {kk : Nat}
abbrev BX (X : Cx) (scope : Scope) (s : Shared) (H0 : Hp) (C : Addr) (cl : List (Str × Addr)) (fp : List Addr) : Cx := X.blk s H0 scope (compEnvC scope cl C X.env) fp
theorem some_map (rs : List PyData) : (rs.map some).filterMap id = rs := by
  induction rs with
  | nil => rfl
  | cons r rs ih => simp
theorem some_at {rs : List PyData} {i : Nat} {o : Option PyData} (h : (rs.map some)[i]? = some o) : ∃ r, rs[i]? = some r ∧ o = some r := by
  rw [List.getElem?_map] at h
  cases e : rs[i]? with
  | none => rw [e] at h; cases h
  | some r => rw [e] at h; cases h; exact ⟨r, rfl, rfl⟩
/-- [elt for x in iter] -/
theorem y_lcN (hN : X.N.Nodup) (j : Nat) {x : Str} (hi : Iy X (.Name x px) iter δ ds) (ok : BlkOk X.N X.env.scope scope [(x, j)]) (hlen : rs.length = ds.length) (h : ∀ (i : Nat) (d r : PyData), ds[i]? = some d → rs[i]? = some r → ∀ s H0 C cl fp, Ey (BX X scope s H0 C cl fp) elt (δ.set j (some (.d d))) (.d r))
    (hz : ds.length ≤ 10000) (hl : Loc (relabel scope X.env) x := by exact .inl rfl) (hf : (relabel scope X.env).names.lookup x = some .local := by rfl) (hc : X.calm = true := by rfl) (hj : X.N[j]? = some x := by rfl) (hjl : j < δ.length := by exact Nat.le_of_ble_eq_true rfl) (hs : ∀ x, foldedSetIterable iter X.env x = pure x := by intro _; rfl) :
    Ey X (.ListComp elt [⟨.Name x px, iter, [], 0⟩] scope pos) δ (.d (.list rs)) := by
  have := y_lc (pos := pos) (gName j) tYes (rs.map some) hc hN hi ok (fun s H C cl fp => pg_name hN hj hl (.inr hf)) (fun s H C cl fp => pts_nil) (by rw [List.length_map]; exact hlen) hz (fun i d o e1 e2 => by
    obtain ⟨r, e3, rfl⟩ := some_at e2
    exact turns_name hjl fun s H0 C cl fp => h i d r e1 e3 s H0 C cl fp) hs
  rwa [some_map] at this
/-- [elt for x in iter if t] -/
theorem y_lcT (hN : X.N.Nodup) (j : Nat) {x : Str} (os : List (Option PyData)) (hi : Iy X (.Name x px) iter δ ds) (ok : BlkOk X.N X.env.scope scope [(x, j)]) (hlen : os.length = ds.length)
    (ht : ∀ (i : Nat) (d : PyData) (o : Option PyData), ds[i]? = some d → os[i]? = some o → ∀ s H0 C cl fp, Ty (BX X scope s H0 C cl fp) t (δ.set j (some (.d d))) o.isSome)
    (h : ∀ (i : Nat) (d r : PyData), ds[i]? = some d → os[i]? = some (some r) → ∀ s H0 C cl fp, Ey (BX X scope s H0 C cl fp) elt (δ.set j (some (.d d))) (.d r))
    (hz : ds.length ≤ 10000) (hl : Loc (relabel scope X.env) x := by exact .inl rfl) (hf : (relabel scope X.env).names.lookup x = some .local := by rfl) (hc : X.calm = true := by rfl) (hj : X.N[j]? = some x := by rfl) (hjl : j < δ.length := by exact Nat.le_of_ble_eq_true rfl) (hs : ∀ x, foldedSetIterable iter X.env x = pure x := by intro _; rfl) :
    Ey X (.ListComp elt [⟨.Name x px, iter, [t], 0⟩] scope pos) δ (.d (.list (os.filterMap id))) :=
  y_lc (pos := pos) (gName j) (tBT X scope t) os hc hN hi ok (fun s H C cl fp => pg_name hN hj hl (.inr hf)) (fun s H C cl fp => pts_one ⟨fun pins s2 σ H2 Q I h => h s H C cl fp pins s2 I⟩) hlen hz (fun i d o e1 e2 => turns_nameT hjl (fun s H0 C cl fp => ht i d o e1 e2 s H0 C cl fp) fun y e s H0 C cl fp => h i d y e1 (by rw [e2, e]) s H0 C cl fp) hs
/-- [elt for x, y in iter] -/
theorem y_lcP (hN : X.N.Nodup) (j1 j2 : Nat) {x y : Str} (hi : Iy X (.Tuple [.Name x p1, .Name y p2] kk tpos) iter δ ds) (ok : BlkOk X.N X.env.scope scope [(x, j1), (y, j2)]) (hlen : rs.length = ds.length)
    (h : ∀ (i : Nat) (d r : PyData), ds[i]? = some d → rs[i]? = some r → ∃ d1 d2, d = .tuple [d1, d2] ∧ ∀ s H0 C cl fp, Ey (BX X scope s H0 C cl fp) elt ((δ.set j1 (some (.d d1))).set j2 (some (.d d2))) (.d r))
    (hz : ds.length ≤ 10000) (hl1 : Loc (relabel scope X.env) x := by exact .inl rfl) (hl2 : Loc (relabel scope X.env) y := by exact .inl rfl) (hf1 : (relabel scope X.env).names.lookup x = some .local := by rfl) (hf2 : (relabel scope X.env).names.lookup y = some .local := by rfl) (hc : X.calm = true := by rfl) (hj1 : X.N[j1]? = some x := by rfl) (hj2 : X.N[j2]? = some y := by rfl) (hne : j1 ≠ j2 := by decide) (hs : ∀ x, foldedSetIterable iter X.env x = pure x := by intro _; rfl) :
    Ey X (.ListComp elt [⟨.Tuple [.Name x p1, .Name y p2] kk tpos, iter, [], 0⟩] scope pos) δ (.d (.list rs)) := by
  have := y_lc (pos := pos) (gTup X.K 2 (gCons (gName j1) (gCons (gName j2) gNil))) tYes (rs.map some) hc hN hi ok (fun s H C cl fp => pg_tup hc (pgs_cons (pg_name hN hj1 hl1 (.inr hf1)) (pgs_cons (pg_name hN hj2 hl2 (.inr hf2)) pgs_nil)) rfl rfl) (fun s H C cl fp => pts_nil) (by rw [List.length_map]; exact hlen) hz (fun i d o e1 e2 => by
    obtain ⟨r, e3, rfl⟩ := some_at e2
    obtain ⟨d1, d2, rfl, h2⟩ := h i d r e1 e3
    exact turns_pair hne (fun σ H G Q eg en q => q H G (Vx.refl eg)) fun y e s H0 C cl fp => by cases e; exact h2 s H0 C cl fp) hs
  rwa [some_map] at this
/-- [elt for x, y in iter if t] -/
theorem y_lcPT (hN : X.N.Nodup) (j1 j2 : Nat) {x y : Str} (os : List (Option PyData)) (hi : Iy X (.Tuple [.Name x p1, .Name y p2] kk tpos) iter δ ds) (ok : BlkOk X.N X.env.scope scope [(x, j1), (y, j2)]) (hlen : os.length = ds.length)
    (h : ∀ (i : Nat) (d : PyData) (o : Option PyData), ds[i]? = some d → os[i]? = some o → ∃ d1 d2, d = .tuple [d1, d2] ∧ (∀ s H0 C cl fp, Ty (BX X scope s H0 C cl fp) t ((δ.set j1 (some (.d d1))).set j2 (some (.d d2))) o.isSome) ∧ ∀ r, o = some r → ∀ s H0 C cl fp, Ey (BX X scope s H0 C cl fp) elt ((δ.set j1 (some (.d d1))).set j2 (some (.d d2))) (.d r))
    (hz : ds.length ≤ 10000) (hl1 : Loc (relabel scope X.env) x := by exact .inl rfl) (hl2 : Loc (relabel scope X.env) y := by exact .inl rfl) (hf1 : (relabel scope X.env).names.lookup x = some .local := by rfl) (hf2 : (relabel scope X.env).names.lookup y = some .local := by rfl) (hc : X.calm = true := by rfl) (hj1 : X.N[j1]? = some x := by rfl) (hj2 : X.N[j2]? = some y := by rfl) (hne : j1 ≠ j2 := by decide) (hs : ∀ x, foldedSetIterable iter X.env x = pure x := by intro _; rfl) :
    Ey X (.ListComp elt [⟨.Tuple [.Name x p1, .Name y p2] kk tpos, iter, [t], 0⟩] scope pos) δ (.d (.list (os.filterMap id))) :=
  y_lc (pos := pos) (gTup X.K 2 (gCons (gName j1) (gCons (gName j2) gNil))) (tBT X scope t) os hc hN hi ok (fun s H C cl fp => pg_tup hc (pgs_cons (pg_name hN hj1 hl1 (.inr hf1)) (pgs_cons (pg_name hN hj2 hl2 (.inr hf2)) pgs_nil)) rfl rfl) (fun s H C cl fp => pts_one ⟨fun pins s2 σ H2 Q I h => h s H C cl fp pins s2 I⟩) hlen hz (fun i d o e1 e2 => by
    obtain ⟨d1, d2, rfl, h1, h2⟩ := h i d o e1 e2
    exact turns_pair hne (fun σ H G Q eg en q => fun s H0 C cl fp => h1 s H0 C cl fp σ H G Q eg en q) fun y e s H0 C cl fp => h2 y e s H0 C cl fp) hs
theorem bools_at {α : Type} {l : List α} {r : PyData} {i : Nat} {b : Bool} (h : ((l.map fun _ => b).map PyData.bool)[i]? = some r) : r = .bool b := by
  rw [List.getElem?_map, List.getElem?_map] at h
  cases e : l[i]? with
  | none => rw [e] at h; cases h
  | some q => rw [e] at h; exact (Option.some.inj h).symm
theorem bools_len {α : Type} {l : List α} {b : Bool} : ((l.map fun _ => b).map PyData.bool).length = l.length := by rw [List.length_map, List.length_map]
theorem all_true {α : Type} (l : List α) : (l.map fun _ => true).all id = true := by
  induction l with
  | nil => rfl
  | cons a l ih => rw [List.map_cons, List.all_cons, ih]; rfl
theorem any_false {α : Type} (l : List α) : (l.map fun _ => false).any id = false := by
  induction l with
  | nil => rfl
  | cons a l ih => rw [List.map_cons, List.any_cons, ih]; rfl
theorem c_allT {α : Type} {l : List α} (hc : X.calm = true := by rfl) : Cy X (.builtin "all") [.d (.list ((l.map fun _ => true).map PyData.bool))] (.d (.bool true)) := by
  have := c_all (X := X) (bs := l.map fun _ => true) hc
  rwa [all_true] at this
theorem c_anyF {α : Type} {l : List α} (hc : X.calm = true := by rfl) : Cy X (.builtin "any") [.d (.list ((l.map fun _ => false).map PyData.bool))] (.d (.bool false)) := by
  have := c_any (X := X) (bs := l.map fun _ => false) hc
  rwa [any_false] at this
end
end KW
set_option linter.all false
set_option maxRecDepth 100000
set_option maxHeartbeats 4000000
/-! the text's defs, their scopes -/
namespace KP
open PySem PySem.Spec PyProof.Rows L2
def topS (i : Nat) : Stmt := PySem.Challenge.pw_astherulessay_k68_whole_matrices_put_tog.main.body.getD i (.Pass ⟨0, 0, 0, 0⟩)
def bodyC : Stmt → List Stmt
  | .ClassDef _ _ _ b _ _ _ _ _ _ _ => b
  | _ => []
def clsS (i j : Nat) : Stmt := (bodyC (topS i)).getD j (.Pass ⟨0, 0, 0, 0⟩)
abbrev s_is_integer : Stmt := topS 4
theorem c_is_integer : FnScope ["value"] ["value"] (defScope s_is_integer) := ⟨rfl, rfl, rfl, by decide +kernel, rfl, by decide +kernel, by decide +kernel⟩
abbrev s_common : Stmt := topS 8
theorem c_common : FnScope ["one", "other"] ["one", "other"] (defScope s_common) := ⟨rfl, rfl, rfl, by decide +kernel, rfl, by decide +kernel, by decide +kernel⟩
abbrev s_part : Stmt := topS 9
theorem c_part : FnScope ["top", "low", "divisor", "sign"] ["top", "low"] (defScope s_part) := ⟨rfl, rfl, rfl, by decide +kernel, rfl, by decide +kernel, by decide +kernel⟩
abbrev s_plus : Stmt := topS 10
theorem c_plus : FnScope ["one", "other"] ["one", "other"] (defScope s_plus) := ⟨rfl, rfl, rfl, by decide +kernel, rfl, by decide +kernel, by decide +kernel⟩
abbrev s_minus : Stmt := topS 11
theorem c_minus : FnScope ["one", "other"] ["one", "other"] (defScope s_minus) := ⟨rfl, rfl, rfl, by decide +kernel, rfl, by decide +kernel, by decide +kernel⟩
abbrev s_times : Stmt := topS 12
theorem c_times : FnScope ["one", "other"] ["one", "other"] (defScope s_times) := ⟨rfl, rfl, rfl, by decide +kernel, rfl, by decide +kernel, by decide +kernel⟩
abbrev s_divided : Stmt := topS 13
theorem c_divided : FnScope ["one", "other"] ["one", "other"] (defScope s_divided) := ⟨rfl, rfl, rfl, by decide +kernel, rfl, by decide +kernel, by decide +kernel⟩
abbrev s_is_less : Stmt := topS 14
theorem c_is_less : FnScope ["one", "other"] ["one", "other"] (defScope s_is_less) := ⟨rfl, rfl, rfl, by decide +kernel, rfl, by decide +kernel, by decide +kernel⟩
abbrev s_sum_of : Stmt := topS 15
theorem c_sum_of : FnScope ["some", "found", "one"] ["some"] (defScope s_sum_of) := ⟨rfl, rfl, rfl, by decide +kernel, rfl, by decide +kernel, by decide +kernel⟩
abbrev s_least_of : Stmt := topS 16
theorem c_least_of : FnScope ["some", "found", "one"] ["some"] (defScope s_least_of) := ⟨rfl, rfl, rfl, by decide +kernel, rfl, by decide +kernel, by decide +kernel⟩
abbrev s_greatest_of : Stmt := topS 17
theorem c_greatest_of : FnScope ["some", "found", "one"] ["some"] (defScope s_greatest_of) := ⟨rfl, rfl, rfl, by decide +kernel, rfl, by decide +kernel, by decide +kernel⟩
abbrev s_is_fraction : Stmt := topS 18
theorem c_is_fraction : FnScope ["value"] ["value"] (defScope s_is_fraction) := ⟨rfl, rfl, rfl, by decide +kernel, rfl, by decide +kernel, by decide +kernel⟩
abbrev s_is_share : Stmt := topS 19
theorem c_is_share : FnScope ["value", "many", "one"] ["value", "many"] (defScope s_is_share) := ⟨rfl, rfl, rfl, by decide +kernel, rfl, by decide +kernel, by decide +kernel⟩
abbrev s_mean_of : Stmt := topS 20
theorem c_mean_of : FnScope ["shares", "some", "share", "one"] ["shares", "some"] (defScope s_mean_of) := ⟨rfl, rfl, rfl, by decide +kernel, rfl, by decide +kernel, by decide +kernel⟩
abbrev s_is_row : Stmt := topS 25
theorem c_is_row : FnScope ["value", "many", "one"] ["value", "many"] (defScope s_is_row) := ⟨rfl, rfl, rfl, by decide +kernel, rfl, by decide +kernel, by decide +kernel⟩
abbrev s_is_matrix : Stmt := topS 26
theorem c_is_matrix : FnScope ["value", "row"] ["value"] (defScope s_is_matrix) := ⟨rfl, rfl, rfl, by decide +kernel, rfl, by decide +kernel, by decide +kernel⟩
abbrev s_check_matrix : Stmt := topS 27
theorem c_check_matrix : FnScope ["matrix"] ["matrix"] (defScope s_check_matrix) := ⟨rfl, rfl, rfl, by decide +kernel, rfl, by decide +kernel, by decide +kernel⟩
abbrev s_columns_of : Stmt := topS 28
theorem c_columns_of : FnScope ["matrix"] ["matrix"] (defScope s_columns_of) := ⟨rfl, rfl, rfl, by decide +kernel, rfl, by decide +kernel, by decide +kernel⟩
abbrev s_Corner_init : Stmt := clsS 29 0
theorem c_Corner_init : FnScope ["self", "matrix", "many", "wide", "place", "row", "own", "other", "one"] ["self", "matrix"] (defScope s_Corner_init) := ⟨rfl, rfl, rfl, by decide +kernel, rfl, by decide +kernel, by decide +kernel⟩
abbrev s_Corner_entering : Stmt := clsS 29 1
theorem c_Corner_entering : FnScope ["self", "found", "at", "one"] ["self"] (defScope s_Corner_entering) := ⟨rfl, rfl, rfl, by decide +kernel, rfl, by decide +kernel, by decide +kernel⟩
abbrev s_Corner_leaving : Stmt := clsS 29 2
theorem c_Corner_leaving : FnScope ["self", "column", "found", "place", "row", "least", "one"] ["self", "column"] (defScope s_Corner_leaving) := ⟨rfl, rfl, rfl, by decide +kernel, rfl, by decide +kernel, by decide +kernel⟩
abbrev s_Corner_turn : Stmt := clsS 29 3
theorem c_Corner_turn : FnScope ["self", "place", "column", "head", "other", "one", "at"] ["self", "place", "column"] (defScope s_Corner_turn) := ⟨rfl, rfl, rfl, by decide +kernel, rfl, by decide +kernel, by decide +kernel⟩
abbrev s_Corner_go : Stmt := clsS 29 4
theorem c_Corner_go : FnScope ["self", "column"] ["self"] (defScope s_Corner_go) := ⟨rfl, rfl, rfl, by decide +kernel, rfl, by decide +kernel, by decide +kernel⟩
abbrev s_Corner_columns : Stmt := clsS 29 5
theorem c_Corner_columns : FnScope ["self", "wide", "known", "column", "base", "row"] ["self", "wide"] (defScope s_Corner_columns) := ⟨rfl, rfl, rfl, by decide +kernel, rfl, by decide +kernel, by decide +kernel⟩
abbrev s_less_times : Stmt := topS 30
theorem c_less_times : FnScope ["row", "other", "column", "often", "one", "two"] ["row", "other", "column"] (defScope s_less_times) := ⟨rfl, rfl, rfl, by decide +kernel, rfl, by decide +kernel, by decide +kernel⟩
abbrev s_solved : Stmt := topS 31
theorem c_solved : FnScope ["matrix", "many", "wide", "corner", "columns", "rows", "whole", "value", "one"] ["matrix"] (defScope s_solved) := ⟨rfl, rfl, rfl, by decide +kernel, rfl, by decide +kernel, by decide +kernel⟩
abbrev s_matrix_told : Stmt := topS 32
theorem c_matrix_told : FnScope ["matrix"] ["matrix"] (defScope s_matrix_told) := ⟨rfl, rfl, rfl, by decide +kernel, rfl, by decide +kernel, by decide +kernel⟩
abbrev s_shows_matrix : Stmt := topS 33
theorem c_shows_matrix : FnScope ["matrix", "value", "least", "most", "column", "row"] ["matrix", "value"] (defScope s_shows_matrix) := ⟨rfl, rfl, rfl, by decide +kernel, rfl, by decide +kernel, by decide +kernel⟩
abbrev s__law_pot : Stmt := topS 35
theorem c__law_pot : FnScope ["script", "place", "cell", "own", "small"] ["script", "place"] (defScope s__law_pot) := ⟨rfl, rfl, rfl, by decide +kernel, rfl, by decide +kernel, by decide +kernel⟩
abbrev s__law_take : Stmt := topS 36
theorem c__law_take : FnScope ["pot", "upto", "prime", "blend", "digit"] ["pot", "upto"] (defScope s__law_take) := ⟨rfl, rfl, rfl, by decide +kernel, rfl, by decide +kernel, by decide +kernel⟩
abbrev s__law_of : Stmt := topS 37
theorem c__law_of : FnScope ["pot", "some"] ["pot", "some"] (defScope s__law_of) := ⟨rfl, rfl, rfl, by decide +kernel, rfl, by decide +kernel, by decide +kernel⟩
abbrev s__law_cells : Stmt := topS 38
theorem c__law_cells : FnScope ["script", "limit"] ["script", "limit"] (defScope s__law_cells) := ⟨rfl, rfl, rfl, by decide +kernel, rfl, by decide +kernel, by decide +kernel⟩
abbrev s__law_short : Stmt := topS 39
theorem c__law_short : FnScope ["top", "low", "one", "other", "lap"] ["top", "low"] (defScope s__law_short) := ⟨rfl, rfl, rfl, by decide +kernel, rfl, by decide +kernel, by decide +kernel⟩
abbrev s__law_plus : Stmt := topS 40
theorem c__law_plus : FnScope ["one", "other"] ["one", "other"] (defScope s__law_plus) := ⟨rfl, rfl, rfl, by decide +kernel, rfl, by decide +kernel, by decide +kernel⟩
abbrev s__law_times : Stmt := topS 41
theorem c__law_times : FnScope ["one", "other"] ["one", "other"] (defScope s__law_times) := ⟨rfl, rfl, rfl, by decide +kernel, rfl, by decide +kernel, by decide +kernel⟩
abbrev s__law_less : Stmt := topS 42
theorem c__law_less : FnScope ["one", "other"] ["one", "other"] (defScope s__law_less) := ⟨rfl, rfl, rfl, by decide +kernel, rfl, by decide +kernel, by decide +kernel⟩
abbrev s__law_minus : Stmt := topS 43
theorem c__law_minus : FnScope ["one", "other"] ["one", "other"] (defScope s__law_minus) := ⟨rfl, rfl, rfl, by decide +kernel, rfl, by decide +kernel, by decide +kernel⟩
abbrev s__law_matrix : Stmt := topS 44
theorem c__law_matrix : FnScope ["pot", "rows", "columns", "low", "some", "found", "row", "column"] ["pot", "rows", "columns"] (defScope s__law_matrix) := ⟨rfl, rfl, rfl, by decide +kernel, rfl, by decide +kernel, by decide +kernel⟩
abbrev s__law_corners : Stmt := topS 45
theorem c__law_corners : FnScope ["one", "other", "number", "wide", "far", "row"] ["one", "other", "number"] (defScope s__law_corners) := ⟨rfl, rfl, rfl, by decide +kernel, rfl, by decide +kernel, by decide +kernel⟩
abbrev s__law_inverse : Stmt := topS 46
theorem c__law_inverse : FnScope ["share"] ["share"] (defScope s__law_inverse) := ⟨rfl, rfl, rfl, by decide +kernel, rfl, by decide +kernel, by decide +kernel⟩
abbrev s__law_due : Stmt := topS 47
theorem c__law_due : FnScope ["one", "other", "number", "more", "less"] ["one", "other", "number"] (defScope s__law_due) := ⟨rfl, rfl, rfl, by decide +kernel, rfl, by decide +kernel, by decide +kernel⟩
abbrev s__law_joined : Stmt := topS 48
theorem c__law_joined : FnScope ["one", "other", "gains", "whole", "parts", "gain", "share"] ["one", "other", "gains"] (defScope s__law_joined) := ⟨rfl, rfl, rfl, by decide +kernel, rfl, by decide +kernel, by decide +kernel⟩
abbrev s__law_are_corners_right : Stmt := topS 49
theorem c__law_are_corners_right : FnScope ["pot", "sides", "one", "other", "first", "second", "matrix", "told", "number", "both", "due", "line", "sign", "gains", "paper", "lap", "row"] ["pot"] (defScope s__law_are_corners_right) := ⟨rfl, rfl, rfl, by decide +kernel, rfl, by decide +kernel, by decide +kernel⟩
abbrev s__law_is_palin : Stmt := topS 50
theorem c__law_is_palin : FnScope ["matrix", "paper", "column", "total", "share", "row"] ["matrix", "paper"] (defScope s__law_is_palin) := ⟨rfl, rfl, rfl, by decide +kernel, rfl, by decide +kernel, by decide +kernel⟩
abbrev s__law_are_sides_right : Stmt := topS 51
theorem c__law_are_sides_right : FnScope ["pot", "rows", "columns", "one", "other", "first", "second", "least", "most", "beside", "below", "again", "more", "line", "told", "paper", "great", "row", "its", "share"] ["pot"] (defScope s__law_are_sides_right) := ⟨rfl, rfl, rfl, by decide +kernel, rfl, by decide +kernel, by decide +kernel⟩
abbrev s_law : Stmt := topS 52
theorem c_law : FnScope ["script", "place", "pot", "lap"] ["script"] (defScope s_law) := ⟨rfl, rfl, rfl, by decide +kernel, rfl, by decide +kernel, by decide +kernel⟩
end KP
set_option linter.all false
set_option maxRecDepth 100000
set_option maxHeartbeats 4000000
namespace KP
open PySem PySem.Spec PyProof.Rows L2 KW
/-- the cells at the entry -/
def stD (N : List Str) (cs : List Cl) : DE := cs.map some ++ List.replicate (N.length - cs.length) none
theorem start_en {K : PySem.W.Frag} {G : Hp} {N : List Str} {cs : List Cl} {vs : List V} (h : CAll K G cs vs) : En K G (L2.start N vs) (stD N cs) := by
  have hl := CAll.len h
  refine ⟨by unfold L2.start stD; simp [hl], fun i c e => ?_⟩
  have go : ∀ {cs : List Cl} {vs : List V}, CAll K G cs vs → ∀ (i : Nat) (c : Cl), cs[i]? = some c → ∃ v, vs[i]? = some v ∧ cOk K G c v := by
    intro cs vs h
    induction h with
    | nil => intro i c e; simp at e
    | cons h r ih =>
      intro i c e
      cases i with
      | zero =>
        cases e
        exact ⟨_, rfl, h⟩
      | succ i => exact ih i c e
  unfold stD at e
  by_cases hi : i < cs.length
  · rw [List.getElem?_append_left (by simpa using hi), List.getElem?_map] at e
    have e2 : cs[i]? = some c := by
      cases hc : cs[i]? with
      | none => rw [hc] at e; cases e
      | some c' => rw [hc] at e; cases e; rfl
    obtain ⟨v, e3, e4⟩ := go h i c e2
    refine ⟨v, ?_, e4⟩
    unfold L2.start
    rw [List.getElem?_append_left (by rw [List.length_map]; omega), List.getElem?_map, e3]
    rfl
  · rw [List.getElem?_append_right (by simpa using hi)] at e
    rw [List.getElem?_replicate] at e
    split at e <;> cases e
/-- the context of a body -/
abbrev bX (P : Program) (w : World) (K : PySem.W.Frag) (mg : Str → Option Value) (base : Heap) (N : List Str) (qual : Str) (st : Stmt) (f : Addr) (cdv : Value) (A : Around) (outer : List Env) (s : Shared) (H : Hp) (E : XK) : Cx := (cxOf CX0 P w K mg base N qual (defScope st) f cdv A outer s H E).nox
section
variable {P : Program} {w : World} {K : PySem.W.Frag} {mg : Str → Option Value} {base : Heap}
theorem pure_ok {R : List Cl → PyData → Prop} {x qual : Str} {st : Stmt} {f : Addr} {fd : FuncData} {N ps : List Str} {k : Nat} (F : Fun K x qual st f fd) (S : FnScope N ps (defScope st)) (hlen : ∀ cs d, R cs d → cs.length = ps.length)
    (hbody : ∀ (cdv : Value) (A : Around) (outer : List Env) (s : Shared) (H : Hp) (E : XK), Room k (bX P w K mg base N qual st f cdv A outer s H E).A → ∀ cs d, R cs d → Sy (bX P w K mg base N qual st f cdv A outer s H E) (defBody st) (stD N cs) { nx := fun _ => d = .none, rt := fun c => c = .d d }) :
    FnOk P w K mg base CX0 (k + 1) f fd ps (spR K R) := by
  refine F.ok S (fun vs H Q E h => ?_) (fun cdv A outer s H vs Q E hr h => ?_)
  · obtain ⟨G, cs, d, eg, ha, hR, q⟩ := h
    rw [← CAll.len ha]
    exact hlen cs d hR
  · obtain ⟨G, cs, d, eg, ha, hR, q⟩ := h
    refine ⟨_, pssW, hbody cdv A outer s H E hr cs d hR (L2.start N vs) H G _ eg (start_en ha) ⟨fun σ2 H2 G2 δ2 v en p => ?_, fun v H2 G2 c v2 o p => ?_, fun _ _ _ _ _ _ z => z.elim, fun _ _ _ _ _ _ z => z.elim⟩⟩
    · subst p
      exact q .non H2 G2 v Rp.non
    · subst p
      exact q v H2 G2 v2 o
/-- a def as it stands -/
structure Has (K : PySem.W.Frag) (mg : Str → Option Value) (x : Str) (st : Stmt) (ps : List Str) : Prop where
  ex : ∃ (f : Addr) (fd : FuncData), mg x = some (.ref f) ∧ Fun K x x st f fd ∧ Binds K fd ps []
/-- a def that may be called -/
structure Cb (P : Program) (w : World) (K : PySem.W.Frag) (mg : Str → Option Value) (base : Heap) (k : Nat) (x : Str) (R : List Cl → PyData → Prop) : Prop where
  ex : ∃ (f : Addr) (fd : FuncData) (ps : List Str), FnOk P w K mg base CX0 k f fd ps (spR K R) ∧ mg x = some (.ref f) ∧ PySem.W.keepIn K (.ref f) = true ∧ Binds K fd ps []
theorem Cb.of {R : List Cl → PyData → Prop} {x : Str} {st : Stmt} {N ps : List Str} {k : Nat} (h : Has K mg x st ps) (S : FnScope N ps (defScope st)) (hlen : ∀ cs d, R cs d → cs.length = ps.length)
    (hbody : ∀ (f : Addr) (cdv : Value) (A : Around) (outer : List Env) (s : Shared) (H : Hp) (E : XK), Room k (bX P w K mg base N x st f cdv A outer s H E).A → ∀ cs d, R cs d → Sy (bX P w K mg base N x st f cdv A outer s H E) (defBody st) (stD N cs) { nx := fun _ => d = .none, rt := fun c => c = .d d }) :
    Cb P w K mg base (k + 1) x R := by
  obtain ⟨f, fd, hm, F, hb⟩ := h.ex
  exact ⟨f, fd, ps, pure_ok F S hlen (hbody f), hm, F.kp, hb⟩
theorem yv {X : Cx} {δ : DE} {c : Cl} {pos : Pos} (i : Nat) {x : Str} (hN : X.N[i]? = some x := by rfl) (hv : Vis X.env.scope x := by first | exact Or.inl rfl | exact Or.inr (Or.inl rfl) | exact Or.inr (Or.inr rfl)) (h : δ[i]? = some (some c) := by rfl) (hd : (x == ("__debug__" : Str)) = false := by decide) (hcd : (x == ("__classdict__" : Str)) = false := by decide) : Ey X (.Name x pos) δ c := y_var hN hv h hd hcd
theorem y_cb {X : Cx} {δ : DE} {k k' : Nat} {x : Str} {R : List Cl → PyData → Prop} {e : Expr} {es : List Expr} {p pos : Pos} {cs : List Cl} {d : PyData} (C : Cb X.prog X.w X.K X.mg X.base k x R) (hr : Room k' X.A) (hk : k ≤ k') (ha : Ay X (e :: es) δ cs) (hR : R cs d) (hg : Gl X x := by rfl) (hdb : (x == ("__debug__" : Str)) = false := by decide) (he : starEach (e :: es) X.env = (false, eval e X.env) :: starEach es X.env := by rfl) (hpl : (backTo pos (starEach es X.env)).any (·.1) = false := by rfl) :
    Ey X (.Call (.Name x p) (e :: es) [] pos) δ (.d d) := by
  obtain ⟨f, fd, ps, F, hm, hkp, hb⟩ := C.ex
  exact y_call (F.mono hk) hr hg hm hkp hb ha hR hdb he hpl
/-- a constant of the module -/
structure GC (K : PySem.W.Frag) (mg : Str → Option Value) (x : Str) (d : PyData) : Prop where
  ex : ∃ (v : V) (u : Value), mg x = some u ∧ RelV v u ∧ ∀ G, Rp K G v d
theorem y_gc {X : Cx} {δ : DE} {x : Str} {pos : Pos} {d : PyData} (h : GC X.K X.mg x d) (hg : Gl X x := by rfl) (hd : (x == ("__debug__" : Str)) = false := by decide) : Ey X (.Name x pos) δ (.d d) := by
  obtain ⟨v, u, hm, r, hc⟩ := h.ex
  exact y_glob hg hm r hc hd
/-- no def hides a built-in -/
structure Bl (mg : Str → Option Value) : Prop where
  abs : mg "abs" = none
  len : mg "len" = none
  all : mg "all" = none
  any : mg "any" = none
  zip : mg "zip" = none
  enumerate : mg "enumerate" = none
  range : mg "range" = none
  tuple : mg "tuple" = none
  list : mg "list" = none
  int : mg "int" = none
  bool : mg "bool" = none
  min : mg "min" = none
  max : mg "max" = none
  dict : mg "dict" = none
  isinstance : mg "isinstance" = none
  repr : mg "repr" = none
  sum : mg "sum" = none
/-- fractions -/
def frD (q : Rat) : PyData := .tuple [.int q.num, .int q.den]
theorem y_fr0 {X : Cx} {δ : DE} {q : Rat} {pos p2 : Pos} {j : Nat} {e : Expr} (h : Ey X e δ (.d (frD q))) : Ey X (.Subscript e (.Constant (.int 0) j p2) pos) δ (.d (.int q.num)) := y_ix (x_tup (ds := [.int q.num, .int q.den]) (i := 0) rfl) h y_int
theorem y_fr1 {X : Cx} {δ : DE} {q : Rat} {pos p2 : Pos} {j : Nat} {e : Expr} (h : Ey X e δ (.d (frD q))) : Ey X (.Subscript e (.Constant (.int 1) j p2) pos) δ (.d (.int q.den)) := y_ix (x_tup (ds := [.int q.num, .int q.den]) (i := 1) rfl) h y_int
theorem mulOk {i j : Int} {a b : Nat} (ha : K68.Bt a i) (hb : K68.Bt b j) (h : a + b ≤ 1000000 := by decide) (h0 : 0 < a := by decide) (h1 : 0 < b := by decide) : CMulW i j := wide_mul ha hb h0 h1 h
theorem y_tup2 {X : Cx} {δ : DE} {a b : Expr} {d1 d2 : PyData} {n : Nat} {pos : Pos} (ha : Ey X a δ (.d d1)) (hb : Ey X b δ (.d d2)) (hs : starEach [a, b] X.env = (false, eval a X.env) :: starEach [b] X.env := by rfl) (hs2 : starEach [b] X.env = (false, eval b X.env) :: starEach [] X.env := by rfl) : Ey X (.Tuple [a, b] n pos) δ (.d (.tuple [d1, d2])) := y_tup (ds := [d1, d2]) (a_cons ha (a_cons hb a_nil hs2) hs) (by show 2 ≤ 1000; decide)
theorem y_tup1 {X : Cx} {δ : DE} {a : Expr} {d1 : PyData} {n : Nat} {pos : Pos} (ha : Ey X a δ (.d d1)) (hs : starEach [a] X.env = (false, eval a X.env) :: starEach [] X.env := by rfl) : Ey X (.Tuple [a] n pos) δ (.d (.tuple [d1])) := y_tup (ds := [d1]) (a_cons ha a_nil hs) (by show 1 ≤ 1000; decide)
theorem y_tup3 {X : Cx} {δ : DE} {a b c : Expr} {d1 d2 d3 : PyData} {n : Nat} {pos : Pos} (ha : Ey X a δ (.d d1)) (hb : Ey X b δ (.d d2)) (hc : Ey X c δ (.d d3)) (hs : starEach [a, b, c] X.env = (false, eval a X.env) :: starEach [b, c] X.env := by rfl) (hs2 : starEach [b, c] X.env = (false, eval b X.env) :: starEach [c] X.env := by rfl) (hs3 : starEach [c] X.env = (false, eval c X.env) :: starEach [] X.env := by rfl) : Ey X (.Tuple [a, b, c] n pos) δ (.d (.tuple [d1, d2, d3])) := y_tup (ds := [d1, d2, d3]) (a_cons ha (a_cons hb (a_cons hc a_nil hs3) hs2) hs) (by show 3 ≤ 1000; decide)
theorem y_lst1 {X : Cx} {δ : DE} {a : Expr} {d1 : PyData} {pos : Pos} (ha : Ey X a δ (.d d1)) (hs : starEach [a] X.env = (false, eval a X.env) :: starEach [] X.env := by rfl) : Ey X (.List [a] pos) δ (.d (.list [d1])) := y_lst (ds := [d1]) (a_cons ha a_nil hs) (by show 1 ≤ 1000; decide)
theorem y_lst2 {X : Cx} {δ : DE} {a b : Expr} {d1 d2 : PyData} {pos : Pos} (ha : Ey X a δ (.d d1)) (hb : Ey X b δ (.d d2)) (hs : starEach [a, b] X.env = (false, eval a X.env) :: starEach [b] X.env := by rfl) (hs2 : starEach [b] X.env = (false, eval b X.env) :: starEach [] X.env := by rfl) : Ey X (.List [a, b] pos) δ (.d (.list [d1, d2])) := y_lst (ds := [d1, d2]) (a_cons ha (a_cons hb a_nil hs2) hs) (by show 2 ≤ 1000; decide)
/-- calls with one, two, three arguments -/
theorem y_cb1 {X : Cx} {δ : DE} {k k' : Nat} {x : Str} {R : List Cl → PyData → Prop} {e1 : Expr} {p pos : Pos} {c1 : Cl} {d : PyData} (C : Cb X.prog X.w X.K X.mg X.base k x R) (hr : Room k' X.A) (hk : k ≤ k') (h1 : Ey X e1 δ c1) (hR : R [c1] d) (hg : Gl X x := by rfl) (hdb : (x == ("__debug__" : Str)) = false := by decide) (he : starEach [e1] X.env = (false, eval e1 X.env) :: starEach [] X.env := by rfl) : Ey X (.Call (.Name x p) [e1] [] pos) δ (.d d) := y_cb C hr hk (a_cons h1 a_nil he) hR hg hdb he rfl
theorem y_cb2 {X : Cx} {δ : DE} {k k' : Nat} {x : Str} {R : List Cl → PyData → Prop} {e1 e2 : Expr} {p pos : Pos} {c1 c2 : Cl} {d : PyData} (C : Cb X.prog X.w X.K X.mg X.base k x R) (hr : Room k' X.A) (hk : k ≤ k') (h1 : Ey X e1 δ c1) (h2 : Ey X e2 δ c2) (hR : R [c1, c2] d) (hg : Gl X x := by rfl) (hdb : (x == ("__debug__" : Str)) = false := by decide) (he : starEach [e1, e2] X.env = (false, eval e1 X.env) :: starEach [e2] X.env := by rfl) (he2 : starEach [e2] X.env = (false, eval e2 X.env) :: starEach [] X.env := by rfl) (hpl : (backTo pos (starEach [e2] X.env)).any (·.1) = false := by rfl) : Ey X (.Call (.Name x p) [e1, e2] [] pos) δ (.d d) := y_cb C hr hk (a_cons h1 (a_cons h2 a_nil he2) he) hR hg hdb he hpl
theorem y_cb3 {X : Cx} {δ : DE} {k k' : Nat} {x : Str} {R : List Cl → PyData → Prop} {e1 e2 e3 : Expr} {p pos : Pos} {c1 c2 c3 : Cl} {d : PyData} (C : Cb X.prog X.w X.K X.mg X.base k x R) (hr : Room k' X.A) (hk : k ≤ k') (h1 : Ey X e1 δ c1) (h2 : Ey X e2 δ c2) (h3 : Ey X e3 δ c3) (hR : R [c1, c2, c3] d) (hg : Gl X x := by rfl) (hdb : (x == ("__debug__" : Str)) = false := by decide) (he : starEach [e1, e2, e3] X.env = (false, eval e1 X.env) :: starEach [e2, e3] X.env := by rfl) (he2 : starEach [e2, e3] X.env = (false, eval e2 X.env) :: starEach [e3] X.env := by rfl) (he3 : starEach [e3] X.env = (false, eval e3 X.env) :: starEach [] X.env := by rfl) (hpl : (backTo pos (starEach [e2, e3] X.env)).any (·.1) = false := by rfl) : Ey X (.Call (.Name x p) [e1, e2, e3] [] pos) δ (.d d) := y_cb C hr hk (a_cons h1 (a_cons h2 (a_cons h3 a_nil he3) he2) he) hR hg hdb he hpl
theorem y_b1 {X : Cx} {δ : DE} {id : String} {x : Str} {e1 : Expr} {p pos : Pos} {c1 c : Cl} (hc : Cy X (.builtin id) [c1] c) (hm : X.mg x = none) (h1 : Ey X e1 δ c1) (hv : bootBuiltins x = some (.builtin id) := by decide +kernel) (hg : Gl X x := by rfl) (hn : x ≠ "__name__" := by decide) (hdb : (x == ("__debug__" : Str)) = false := by decide) (he : starEach [e1] X.env = (false, eval e1 X.env) :: starEach [] X.env := by rfl) : Ey X (.Call (.Name x p) [e1] [] pos) δ c := y_callB hc hg hm hv (a_cons h1 a_nil he) hn hdb he rfl
theorem y_b2 {X : Cx} {δ : DE} {id : String} {x : Str} {e1 e2 : Expr} {p pos : Pos} {c1 c2 c : Cl} (hc : Cy X (.builtin id) [c1, c2] c) (hm : X.mg x = none) (h1 : Ey X e1 δ c1) (h2 : Ey X e2 δ c2) (hv : bootBuiltins x = some (.builtin id) := by decide +kernel) (hg : Gl X x := by rfl) (hn : x ≠ "__name__" := by decide) (hdb : (x == ("__debug__" : Str)) = false := by decide) (he : starEach [e1, e2] X.env = (false, eval e1 X.env) :: starEach [e2] X.env := by rfl) (he2 : starEach [e2] X.env = (false, eval e2 X.env) :: starEach [] X.env := by rfl) (hpl : (backTo pos (starEach [e2] X.env)).any (·.1) = false := by rfl) : Ey X (.Call (.Name x p) [e1, e2] [] pos) δ c := y_callB hc hg hm hv (a_cons h1 (a_cons h2 a_nil he2) he) hn hdb he hpl
theorem y_t1 {X : Cx} {δ : DE} {T : String} {x : Str} {e1 : Expr} {p pos : Pos} {c1 c : Cl} (hc : Cy X (.type T) [c1] c) (hm : X.mg x = none) (h1 : Ey X e1 δ c1) (hv : bootBuiltins x = some (.type T) := by decide +kernel) (hg : Gl X x := by rfl) (hn : x ≠ "__name__" := by decide) (hdb : (x == ("__debug__" : Str)) = false := by decide) (he : starEach [e1] X.env = (false, eval e1 X.env) :: starEach [] X.env := by rfl) : Ey X (.Call (.Name x p) [e1] [] pos) δ c := y_callTy hc hg hm hv (a_cons h1 a_nil he) hn hdb he rfl
end
end KP
set_option linter.all false
set_option maxRecDepth 100000
set_option maxHeartbeats 4000000
/-! parts: common .. is_less -/
namespace KP
open PySem PySem.Spec PyProof.Rows L2 KW K68
section
variable {P : Program} {w : World} {K : PySem.W.Frag} {mg : Str → Option Value} {base : Heap}
def absI (i : Int) : Int := if i < 0 then -i else i
theorem absI_eq (i : Int) : absI i = i.natAbs := by unfold absI; split <;> omega
/-! common -/
def R_common (cs : List Cl) (d : PyData) : Prop := ∃ i j : Int, cs = [.d (.int i), .d (.int j)] ∧ d = .int (Int.gcd i j : Nat)
theorem ok_common (B : Bl mg) (h : Has K mg "common" s_common ["one", "other"]) : Cb P w K mg base 1 "common" R_common := by
  refine Cb.of (k := 0) h c_common (fun cs d h => by obtain ⟨i, j, rfl, _⟩ := h; rfl) fun f cdv A outer s H E hr cs d h => ?_
  obtain ⟨i, j, rfl, rfl⟩ := h
  refine s_cons (s_par (i := 0) (j := 1) rfl c_common.nd rfl rfl (by decide) rfl rfl (a_cons (y_b1 c_abs B.abs (yv 0)) (a_cons (y_b1 c_abs B.abs (yv 1)) a_nil)) ?_)
  refine s_cons (s_while (fun m δ => ∃ a b : Nat, δ = [some (.d (.int (a : Nat))), some (.d (.int (b : Nat)))] ∧ m = b ∧ Nat.gcd a b = Int.gcd i j) j.natAbs ⟨i.natAbs, j.natAbs, ?_, rfl, rfl⟩ PassesOwn.never ?_)
  · show [some (Cl.d (.int (absI i))), some (Cl.d (.int (absI j)))] = _
    rw [absI_eq, absI_eq]
  · rintro m δ ⟨a, b, rfl, rfl, hg⟩
    refine ⟨_, t_cmp o_neI (yv 1) y_int rfl, fun hk => ?_, fun hk => ?_⟩
    · have hb : m ≠ 0 := fun z => by subst z; simp at hk
      refine s_one (s_par (i := 0) (j := 1) rfl c_common.nd rfl rfl (by decide) rfl rfl (a_cons (yv 1) (a_cons (y_op (o_mod ?_) (yv 0) (yv 1)) a_nil)) ?_)
      · omega
      refine ⟨a % m, Nat.mod_lt _ (by omega), m, a % m, ?_, rfl, ?_⟩
      · show [some (Cl.d (.int (m : Nat))), some (Cl.d (.int ((a : Int) % (m : Int))))] = _
        rw [← Int.natCast_emod]
      · rw [← hg, Nat.gcd_comm a m, Nat.gcd_rec m a, Nat.gcd_comm]
    · have hb : m = 0 := by
        have : decide ((m : Int) = 0) = true := by simpa using hk
        simpa using this
      subst hb
      refine s_one (s_ret (yv 0) ?_)
      show Cl.d (.int (a : Nat)) = _
      rw [← hg, Nat.gcd_zero_right]
/-! part -/
def R_part (cs : List Cl) (d : PyData) : Prop := ∃ top low : Int, cs = [.d (.int top), .d (.int low)] ∧ low ≠ 0 ∧ Bt 100000 top ∧ Bt 100000 low ∧ (Sm (Rat.divInt top low) ∨ Bt 9000 low) ∧ d = frD (Rat.divInt top low)
theorem divA_of {x g q : Int} {m : Nat} (hg : 0 < g) (h : x / g = q) (hd : g ∣ x) (hq : Bt 3990 q) : CDivA x g := by
  refine ⟨hg, .inr ?_⟩
  obtain ⟨y, rfl⟩ := hd
  rw [Int.mul_ediv_cancel_left _ (by omega)] at h
  subst h
  rw [Int.natAbs_mul]
  by_cases hy : y.natAbs = 0
  · rw [hy, Nat.mul_zero]
    have : Nat.log2 0 = 0 := by decide
    omega
  · have hgn : g.natAbs ≠ 0 := by omega
    have h1 : g.natAbs < 2 ^ (g.natAbs.log2 + 1) := Nat.lt_log2_self
    have h2 : g.natAbs * y.natAbs < 2 ^ (g.natAbs.log2 + 1 + 3990) := by
      rw [Nat.pow_add]
      exact Nat.mul_lt_mul'' h1 hq
    have h3 := (Nat.log2_lt (k := g.natAbs.log2 + 1 + 3990) (Nat.mul_ne_zero hgn hy)).mpr h2
    omega
theorem divA_low {top low x : Int} (h0 : low ≠ 0) (h : Bt 9000 low) : CDivA x ((Int.gcd top low : Nat) : Int) := by
  have hp : 0 < Int.gcd top low := Int.gcd_pos_of_ne_zero_right _ h0
  have hle : Int.gcd top low ≤ low.natAbs := Nat.le_of_dvd (by omega) (Nat.gcd_dvd_right _ _)
  refine ⟨by omega, .inl ?_⟩
  rw [Int.natAbs_natCast]
  exact (Nat.log2_lt (by omega)).mpr (Nat.lt_of_le_of_lt hle h)
theorem ok_part (B : Bl mg) (h : Has K mg "part" s_part ["top", "low"]) (hc : Cb P w K mg base 1 "common" R_common) : Cb P w K mg base 2 "part" R_part := by
  refine Cb.of (k := 1) h c_part (fun cs d h => by obtain ⟨i, j, rfl, _⟩ := h; rfl) fun f cdv A outer s H E hr cs d h => ?_
  obtain ⟨top, low, rfl, h0, ht, hl, hs, rfl⟩ := h
  have hgp : 0 < Int.gcd top low := Int.gcd_pos_of_ne_zero_right _ h0
  have hgi : (0 : Int) < ((Int.gcd top low : Nat) : Int) := by omega
  have d1 : ((Int.gcd top low : Nat) : Int) ∣ top := Int.gcd_dvd_left top low
  have d2 : ((Int.gcd top low : Nat) : Int) ∣ low := Int.gcd_dvd_right top low
  refine s_cons (s_set (i := 2) c_part.nd rfl (.inl rfl) (y_cb2 hc hr (Nat.le_refl _) (yv 0) (yv 1) ⟨top, low, rfl, rfl⟩) ?_)
  refine s_cons (s_set (i := 3) (c := .d (.int (if 0 < low then 1 else -1))) c_part.nd rfl (.inl rfl) (y_if (t_cmp o_gt (yv 1) y_int rfl) (fun hk => ?_) (fun hk => ?_)) ?_)
  · rw [if_pos (of_decide_eq_true hk)]
    exact y_int
  · rw [if_neg (of_decide_eq_false hk)]
    exact y_op o_sub y_int y_int
  refine s_one (s_ret (y_tup2 (y_op (o_fdiv ?_) (y_op (o_mul ?_) (yv 3) (yv 0)) (yv 2)) (y_op (o_fdiv ?_) (y_op (o_mul ?_) (yv 3) (yv 1)) (yv 2))) ?_)
  · rcases hs with hs | hs
    · exact divA_of (m := 0) hgi (part_num h0) (Int.dvd_mul_of_dvd_right d1) hs.n
    · exact divA_low h0 hs
  · exact mulOk (a := 2) (b := 100000) (by unfold Bt; split <;> decide) ht
  · rcases hs with hs | hs
    · exact divA_of (m := 0) hgi (part_den h0) (Int.dvd_mul_of_dvd_right d2) hs.d
    · exact divA_low h0 hs
  · exact mulOk (a := 2) (b := 100000) (by unfold Bt; split <;> decide) hl
  · show Cl.d (.tuple [.int _, .int _]) = _
    rw [part_num h0, part_den h0]
    rfl
/-! plus, minus, times, divided, is_less -/
theorem part_of {top low : Int} {q : Rat} (e : Rat.divInt top low = q) (h0 : low ≠ 0) (h1 : Bt 100000 top) (h2 : Bt 100000 low) (hs : Sm q ∨ Bt 9000 low) : R_part [.d (.int top), .d (.int low)] (frD q) := ⟨top, low, rfl, h0, h1, h2, by rw [e]; exact hs, by rw [e]⟩
theorem den_ne (a b : Rat) : (a.den : Int) * b.den ≠ 0 := by
  have h1 := a.den_nz
  have h2 := b.den_nz
  exact Int.mul_ne_zero (by omega) (by omega)
/-- sizes that the text can work with -/
def Wk (a b q : Rat) : Prop := (Sm a ∧ Sm b) ∨ (Md a ∧ Md b ∧ Sm q)
theorem Wk.l {a b q : Rat} (h : Wk a b q) : Md a := h.elim (fun h => h.1.md) fun h => h.1
theorem Wk.r {a b q : Rat} (h : Wk a b q) : Md b := h.elim (fun h => h.2.md) fun h => h.2.1
theorem Wk.dd {a b q : Rat} (h : Wk a b q) : Sm q ∨ Bt 9000 ((a.den : Int) * b.den) := h.elim (fun h => .inr ((h.1.d.mul h.2.d).mono (by decide))) fun h => .inl h.2.2
theorem Wk.dn {a b q : Rat} (h : Wk a b q) : Sm q ∨ Bt 9000 ((a.den : Int) * b.num) := h.elim (fun h => .inr ((h.1.d.mul h.2.n).mono (by decide))) fun h => .inl h.2.2
def R_op (f : Rat → Rat → Rat) (C : Rat → Rat → Prop) (cs : List Cl) (d : PyData) : Prop := ∃ a b : Rat, cs = [.d (frD a), .d (frD b)] ∧ Wk a b (f a b) ∧ C a b ∧ d = frD (f a b)
def R_plus := R_op (· + ·) fun _ _ => True
def R_minus := R_op (· - ·) fun _ _ => True
def R_times := R_op (· * ·) fun _ _ => True
def R_divided := R_op (· / ·) fun _ b => b ≠ 0
theorem ok_plus (h : Has K mg "plus" s_plus ["one", "other"]) (hp : Cb P w K mg base 2 "part" R_part) : Cb P w K mg base 3 "plus" R_plus := by
  refine Cb.of (k := 2) h c_plus (fun cs d h => by obtain ⟨i, j, rfl, _⟩ := h; rfl) fun f cdv A outer s H E hr cs d h => ?_
  obtain ⟨a, b, rfl, hs, -, rfl⟩ := h
  have ha := hs.l
  have hb := hs.r
  refine s_one (s_ret (y_cb2 hp hr (Nat.le_refl _) (y_op o_add (y_op (o_mul ?_) (y_fr0 (yv 0)) (y_fr1 (yv 1))) (y_op (o_mul ?_) (y_fr0 (yv 1)) (y_fr1 (yv 0)))) (y_op (o_mul ?_) (y_fr1 (yv 0)) (y_fr1 (yv 1))) (part_of (add_di a b) (den_ne a b) (((ha.n.mul hb.d).add (hb.n.mul ha.d)).mono (by decide)) ((ha.d.mul hb.d).mono (by decide)) hs.dd)) rfl)
  · exact mulOk ha.n hb.d
  · exact mulOk hb.n ha.d
  · exact mulOk ha.d hb.d
theorem ok_minus (h : Has K mg "minus" s_minus ["one", "other"]) (hp : Cb P w K mg base 2 "part" R_part) : Cb P w K mg base 3 "minus" R_minus := by
  refine Cb.of (k := 2) h c_minus (fun cs d h => by obtain ⟨i, j, rfl, _⟩ := h; rfl) fun f cdv A outer s H E hr cs d h => ?_
  obtain ⟨a, b, rfl, hs, -, rfl⟩ := h
  have ha := hs.l
  have hb := hs.r
  refine s_one (s_ret (y_cb2 hp hr (Nat.le_refl _) (y_op o_sub (y_op (o_mul ?_) (y_fr0 (yv 0)) (y_fr1 (yv 1))) (y_op (o_mul ?_) (y_fr0 (yv 1)) (y_fr1 (yv 0)))) (y_op (o_mul ?_) (y_fr1 (yv 0)) (y_fr1 (yv 1))) (part_of (sub_di a b) (den_ne a b) (((ha.n.mul hb.d).sub (hb.n.mul ha.d)).mono (by decide)) ((ha.d.mul hb.d).mono (by decide)) hs.dd)) rfl)
  · exact mulOk ha.n hb.d
  · exact mulOk hb.n ha.d
  · exact mulOk ha.d hb.d
theorem ok_times (h : Has K mg "times" s_times ["one", "other"]) (hp : Cb P w K mg base 2 "part" R_part) : Cb P w K mg base 3 "times" R_times := by
  refine Cb.of (k := 2) h c_times (fun cs d h => by obtain ⟨i, j, rfl, _⟩ := h; rfl) fun f cdv A outer s H E hr cs d h => ?_
  obtain ⟨a, b, rfl, hs, -, rfl⟩ := h
  have ha := hs.l
  have hb := hs.r
  refine s_one (s_ret (y_cb2 hp hr (Nat.le_refl _) (y_op (o_mul ?_) (y_fr0 (yv 0)) (y_fr0 (yv 1))) (y_op (o_mul ?_) (y_fr1 (yv 0)) (y_fr1 (yv 1))) (part_of (mul_di a b) (den_ne a b) ((ha.n.mul hb.n).mono (by decide)) ((ha.d.mul hb.d).mono (by decide)) hs.dd)) rfl)
  · exact mulOk ha.n hb.n
  · exact mulOk ha.d hb.d
theorem ok_divided (h : Has K mg "divided" s_divided ["one", "other"]) (hp : Cb P w K mg base 2 "part" R_part) : Cb P w K mg base 3 "divided" R_divided := by
  refine Cb.of (k := 2) h c_divided (fun cs d h => by obtain ⟨i, j, rfl, _⟩ := h; rfl) fun f cdv A outer s H E hr cs d h => ?_
  obtain ⟨a, b, rfl, hs, h0, rfl⟩ := h
  have ha := hs.l
  have hb := hs.r
  refine s_one (s_ret (y_cb2 hp hr (Nat.le_refl _) (y_op (o_mul ?_) (y_fr0 (yv 0)) (y_fr1 (yv 1))) (y_op (o_mul ?_) (y_fr1 (yv 0)) (y_fr0 (yv 1))) (part_of (div_di a b h0) ?_ ((ha.n.mul hb.d).mono (by decide)) ((ha.d.mul hb.n).mono (by decide)) hs.dn)) rfl)
  · exact mulOk ha.n hb.d
  · exact mulOk ha.d hb.n
  · have h1 := a.den_nz
    exact Int.mul_ne_zero (by omega) (fun z => h0 (Rat.num_eq_zero.mp z))
def R_less (cs : List Cl) (d : PyData) : Prop := ∃ a b : Rat, cs = [.d (frD a), .d (frD b)] ∧ Md a ∧ Md b ∧ d = .bool (decide (a < b))
theorem ok_less (h : Has K mg "is_less" s_is_less ["one", "other"]) : Cb P w K mg base 1 "is_less" R_less := by
  refine Cb.of (k := 0) h c_is_less (fun cs d h => by obtain ⟨i, j, rfl, _⟩ := h; rfl) fun f cdv A outer s H E hr cs d h => ?_
  obtain ⟨a, b, rfl, ha, hb, rfl⟩ := h
  refine s_one (s_ret (y_cmp o_lt (y_op (o_mul ?_) (y_fr0 (yv 0)) (y_fr1 (yv 1))) (y_op (o_mul ?_) (y_fr0 (yv 1)) (y_fr1 (yv 0))) rfl) ?_)
  · exact mulOk ha.n hb.d
  · exact mulOk hb.n ha.d
  · show Cl.d (.bool _) = _
    rw [lt_di]
end
end KP
set_option linter.all false
set_option maxRecDepth 100000
set_option maxHeartbeats 4000000
/-! parts: sum_of .. mean_of -/
namespace KP
open PySem PySem.Spec PyProof.Rows L2 KW K68
section
variable {P : Program} {w : World} {K : PySem.W.Frag} {mg : Str → Option Value} {base : Heap}
def frs (l : List Rat) : List PyData := l.map frD
theorem frs_at {l : List Rat} {i : Nat} {d : PyData} (h : (frs l)[i]? = some d) : ∃ q, l[i]? = some q ∧ d = frD q := by
  unfold frs at h
  rw [List.getElem?_map] at h
  cases e : l[i]? with
  | none => rw [e] at h; cases h
  | some q => rw [e] at h; cases h; exact ⟨q, rfl, rfl⟩
theorem frs_len (l : List Rat) : (frs l).length = l.length := List.length_map _
theorem sm0 : Sm 0 := ⟨by unfold Bt; decide, by unfold Bt; decide⟩
theorem sm1 : Sm 1 := ⟨by unfold Bt; decide, by unfold Bt; decide⟩
/-- a list or a tuple of fractions -/
inductive Frs (l : List Rat) : PyData → Prop
  | lst : Frs l (.list (frs l))
  | tup : Frs l (.tuple (frs l))
theorem i_frs {X : Cx} {δ : DE} {tg e : Expr} {l : List Rat} {d : PyData} (h : Frs l d) (he : Ey X e δ (.d d)) : Iy X tg e δ (frs l) := by
  cases h with
  | lst => exact i_list he
  | tup => exact i_tup he
def SumOk (l : List Rat) : Prop := (∀ q ∈ l, Sm q) ∧ ∀ k, k ≤ l.length → Sm (l.take k).sum
def R_sum (cs : List Cl) (d : PyData) : Prop := ∃ (l : List Rat) (x : PyData), cs = [.d x] ∧ Frs l x ∧ SumOk l ∧ d = frD l.sum
theorem take_sum {l : List Rat} {i : Nat} {q : Rat} (h : l[i]? = some q) : (l.take (i + 1)).sum = (l.take i).sum + q := by
  obtain ⟨hi, e⟩ := List.getElem?_eq_some_iff.mp h
  rw [← List.take_append_getElem hi, List.sum_append, e, List.sum_cons, List.sum_nil, Rat.add_zero]
theorem ok_sum (h : Has K mg "sum_of" s_sum_of ["some"]) (hn : GC K mg "NOTHING" (frD 0)) (hp : Cb P w K mg base 3 "plus" R_plus) : Cb P w K mg base 4 "sum_of" R_sum := by
  refine Cb.of (k := 3) h c_sum_of (fun cs d h => by obtain ⟨l, x, rfl, _⟩ := h; rfl) fun f cdv A outer s H E hr cs d h => ?_
  obtain ⟨l, x, rfl, hx, ⟨hs, hk⟩, rfl⟩ := h
  refine s_cons (s_set (i := 1) c_sum_of.nd rfl (.inl rfl) (y_gc hn) ?_)
  refine s_cons (s_forN (j := 2) (ds := frs l) PassesOwn.never rfl c_sum_of.nd rfl (.inl rfl) (i_frs hx (yv 0)) (fun i δ => ∃ o, δ = [some (.d x), some (.d (frD (l.take i).sum)), o]) ⟨none, by rw [List.take_zero]; rfl⟩ (fun i d δ' hd hI => ?_) (fun δ' hI => ?_))
  · obtain ⟨o, rfl⟩ := hI
    obtain ⟨q, e, rfl⟩ := frs_at hd
    refine s_one (s_set (i := 1) c_sum_of.nd rfl (.inl rfl) (y_cb2 hp hr (Nat.le_refl _) (yv 1) (yv 2) ⟨(l.take i).sum, q, rfl, .inl ⟨hk i (by have := (List.getElem?_eq_some_iff.mp e).1; omega), hs q (List.mem_of_getElem? e)⟩, True.intro, rfl⟩) ⟨some (.d (frD q)), ?_⟩)
    show [some (Cl.d x), some (.d (frD ((l.take i).sum + q))), some (.d (frD q))] = _
    rw [take_sum e]
  · obtain ⟨o, rfl⟩ := hI
    rw [frs_len, List.take_length]
    exact s_one (s_ret (yv 1) rfl)
/-! least_of, greatest_of -/
def loQ (f o : Rat) : Rat := if o < f then o else f
def hiQ (f o : Rat) : Rat := if f < o then o else f
def leastQ : List Rat → Rat
  | [] => 0
  | x :: xs => xs.foldl loQ x
def mostQ : List Rat → Rat
  | [] => 0
  | x :: xs => xs.foldl hiQ x
theorem loQ_or (a b : Rat) : loQ a b = a ∨ loQ a b = b := by unfold loQ; split <;> simp
theorem hiQ_or (a b : Rat) : hiQ a b = a ∨ hiQ a b = b := by unfold hiQ; split <;> simp
theorem y_conv {X : Cx} {δ : DE} {e : Expr} {d d' : PyData} (h : Ey X e δ (.d d)) (q : d = d') : Ey X e δ (.d d') := q ▸ h
def R_least (f : List Rat → Rat) (cs : List Cl) (d : PyData) : Prop := ∃ l : List Rat, cs = [.d (.list (frs l))] ∧ l ≠ [] ∧ l.length ≤ 1000 ∧ (∀ q ∈ l, Md q) ∧ d = frD (f l)
theorem cut_tail (x : Rat) (xs : List Rat) (h : xs.length ≤ 1000) : KW.cutD (frs (x :: xs)) (some 1) none = frs xs := by
  unfold KW.cutD
  rw [show HT.sIx (frs (x :: xs)).length 0 (some 1) = min 1 (frs (x :: xs)).length from HT.sIx_nat _ 0 1, HT.sIx_none]
  have : (frs (x :: xs)).length = xs.length + 1 := by rw [frs_len]; rfl
  rw [this, show min 1 (xs.length + 1) = 1 by omega]
  show (List.take (xs.length + 1 - 1) (frs xs)) = frs xs
  rw [show xs.length + 1 - 1 = (frs xs).length by rw [frs_len]; omega, List.take_length]
theorem foldl_take {α β : Type} (g : β → α → β) (b : β) {l : List α} {i : Nat} {q : α} (h : l[i]? = some q) : (l.take (i + 1)).foldl g b = g ((l.take i).foldl g b) q := by
  obtain ⟨hi, e⟩ := List.getElem?_eq_some_iff.mp h
  rw [← List.take_append_getElem hi, List.foldl_append, e]
  rfl
theorem fold_mem {g : Rat → Rat → Rat} (hg : ∀ a b, g a b = a ∨ g a b = b) : ∀ (l : List Rat) (x : Rat), l.foldl g x = x ∨ l.foldl g x ∈ l
  | [], x => .inl rfl
  | y :: l, x => by
    rw [List.foldl_cons]
    rcases fold_mem hg l (g x y) with h | h
    · rw [h]
      rcases hg x y with e | e
      · exact .inl e
      · rw [e]; exact .inr List.mem_cons_self
    · exact .inr (List.mem_cons_of_mem _ h)
theorem ok_least (h : Has K mg "least_of" s_least_of ["some"]) (hl : Cb P w K mg base 1 "is_less" R_less) : Cb P w K mg base 2 "least_of" (R_least leastQ) := by
  refine Cb.of (k := 1) h c_least_of (fun cs d h => by obtain ⟨l, rfl, _⟩ := h; rfl) fun f cdv A outer s H E hr cs d h => ?_
  obtain ⟨l, rfl, hne, hz, hs, rfl⟩ := h
  cases l with
  | nil => exact absurd rfl hne
  | cons x xs =>
    have hz' : xs.length ≤ 1000 := by simp at hz; omega
    have mem : ∀ i, Md ((xs.take i).foldl loQ x) := fun i => by
      rcases fold_mem loQ_or (xs.take i) x with e | e
      · rw [e]; exact hs _ List.mem_cons_self
      · exact hs _ (List.mem_cons_of_mem _ (List.mem_of_mem_take e))
    refine s_cons (s_set (i := 1) c_least_of.nd rfl (.inl rfl) (y_ix (x_lst (ds := frs (x :: xs)) (d := frD x) (atI_nat (j := 0) rfl)) (yv 0) y_int) ?_)
    refine s_cons (s_forN (j := 2) (ds := frs xs) PassesOwn.never rfl c_least_of.nd rfl (.inl rfl) (i_list (y_conv (y_cutL (ds := frs (x :: xs)) (yv 0) (p_some y_int) p_none) (congrArg PyData.list (cut_tail x xs hz'))))
      (fun i δ => ∃ o, δ = [some (.d (.list (frs (x :: xs)))), some (.d (frD ((xs.take i).foldl loQ x))), o]) ⟨none, by rw [List.take_zero]; rfl⟩ (fun i d δ' hd hI => ?_) (fun δ' hI => ?_))
    · obtain ⟨o, rfl⟩ := hI
      obtain ⟨q, e, rfl⟩ := frs_at hd
      have sq : Md q := hs q (List.mem_cons_of_mem _ (List.mem_of_getElem? e))
      refine s_one (s_set (i := 1) (c := .d (frD (loQ ((xs.take i).foldl loQ x) q))) c_least_of.nd rfl (.inl rfl) (y_if (t_val (y_cb2 hl hr (Nat.le_refl _) (yv 2) (yv 1) ⟨q, _, rfl, sq, mem i, rfl⟩)) (fun hk => ?_) (fun hk => ?_)) ⟨some (.d (frD q)), ?_⟩)
      · rw [show loQ ((xs.take i).foldl loQ x) q = q from if_pos (of_decide_eq_true hk)]
        exact yv 2
      · rw [show loQ ((xs.take i).foldl loQ x) q = (xs.take i).foldl loQ x from if_neg (of_decide_eq_false hk)]
        exact yv 1
      · rw [foldl_take loQ x e]
        rfl
    · obtain ⟨o, rfl⟩ := hI
      rw [frs_len, List.take_length]
      exact s_one (s_ret (yv 1) rfl)
theorem ok_greatest (h : Has K mg "greatest_of" s_greatest_of ["some"]) (hl : Cb P w K mg base 1 "is_less" R_less) : Cb P w K mg base 2 "greatest_of" (R_least mostQ) := by
  refine Cb.of (k := 1) h c_greatest_of (fun cs d h => by obtain ⟨l, rfl, _⟩ := h; rfl) fun f cdv A outer s H E hr cs d h => ?_
  obtain ⟨l, rfl, hne, hz, hs, rfl⟩ := h
  cases l with
  | nil => exact absurd rfl hne
  | cons x xs =>
    have hz' : xs.length ≤ 1000 := by simp at hz; omega
    have mem : ∀ i, Md ((xs.take i).foldl hiQ x) := fun i => by
      rcases fold_mem hiQ_or (xs.take i) x with e | e
      · rw [e]; exact hs _ List.mem_cons_self
      · exact hs _ (List.mem_cons_of_mem _ (List.mem_of_mem_take e))
    refine s_cons (s_set (i := 1) c_greatest_of.nd rfl (.inl rfl) (y_ix (x_lst (ds := frs (x :: xs)) (d := frD x) (atI_nat (j := 0) rfl)) (yv 0) y_int) ?_)
    refine s_cons (s_forN (j := 2) (ds := frs xs) PassesOwn.never rfl c_greatest_of.nd rfl (.inl rfl) (i_list (y_conv (y_cutL (ds := frs (x :: xs)) (yv 0) (p_some y_int) p_none) (congrArg PyData.list (cut_tail x xs hz'))))
      (fun i δ => ∃ o, δ = [some (.d (.list (frs (x :: xs)))), some (.d (frD ((xs.take i).foldl hiQ x))), o]) ⟨none, by rw [List.take_zero]; rfl⟩ (fun i d δ' hd hI => ?_) (fun δ' hI => ?_))
    · obtain ⟨o, rfl⟩ := hI
      obtain ⟨q, e, rfl⟩ := frs_at hd
      have sq : Md q := hs q (List.mem_cons_of_mem _ (List.mem_of_getElem? e))
      refine s_one (s_set (i := 1) (c := .d (frD (hiQ ((xs.take i).foldl hiQ x) q))) c_greatest_of.nd rfl (.inl rfl) (y_if (t_val (y_cb2 hl hr (Nat.le_refl _) (yv 1) (yv 2) ⟨_, q, rfl, mem i, sq, rfl⟩)) (fun hk => ?_) (fun hk => ?_)) ⟨some (.d (frD q)), ?_⟩)
      · rw [show hiQ ((xs.take i).foldl hiQ x) q = q from if_pos (of_decide_eq_true hk)]
        exact yv 2
      · rw [show hiQ ((xs.take i).foldl hiQ x) q = (xs.take i).foldl hiQ x from if_neg (of_decide_eq_false hk)]
        exact yv 1
      · rw [foldl_take hiQ x e]
        rfl
    · obtain ⟨o, rfl⟩ := hI
      rw [frs_len, List.take_length]
      exact s_one (s_ret (yv 1) rfl)
/-! is_integer, is_fraction -/
def R_isint (cs : List Cl) (d : PyData) : Prop := ∃ i : Int, cs = [.d (.int i)] ∧ d = .bool true
theorem ok_isint (B : Bl mg) (h : Has K mg "is_integer" s_is_integer ["value"]) : Cb P w K mg base 1 "is_integer" R_isint := by
  refine Cb.of (k := 0) h c_is_integer (fun cs d h => by obtain ⟨i, rfl, _⟩ := h; rfl) fun f cdv A outer s H E hr cs d h => ?_
  obtain ⟨i, rfl, rfl⟩ := h
  exact s_one (s_ret (y_and (y_b2 (c_isi (kit2 rfl)) B.isinstance (yv 0) (y_ty rfl B.int (by decide +kernel))) fun _ => y_and1 (y_not (y_b2 (c_isi (kit3 rfl)) B.isinstance (yv 0) (y_ty rfl B.bool (by decide +kernel))))) rfl)
def R_isfr (cs : List Cl) (d : PyData) : Prop := ∃ q : Rat, cs = [.d (frD q)] ∧ 0 ≤ q ∧ d = .bool true
theorem ok_isfr (B : Bl mg) (h : Has K mg "is_fraction" s_is_fraction ["value"]) (hi : Cb P w K mg base 1 "is_integer" R_isint) (hc : Cb P w K mg base 1 "common" R_common) : Cb P w K mg base 2 "is_fraction" R_isfr := by
  refine Cb.of (k := 1) h c_is_fraction (fun cs d h => by obtain ⟨i, rfl, _⟩ := h; rfl) fun f cdv A outer s H E hr cs d h => ?_
  obtain ⟨q, rfl, hq, rfl⟩ := h
  refine s_cons (s_if (k := false) (t_w (w_or (k := false) (l := false) (t_not (k := true) (t_val (y_b2 (c_isi (kit1 rfl)) B.isinstance (yv 0) (y_ty rfl B.tuple (by decide +kernel))))) fun _ => w_or (k := false) (l := false) (t_cmp (k := false) o_neI (y_b1 (c_lenT (ds := [.int q.num, .int q.den])) B.len (yv 0)) y_int rfl) fun _ => w_or (k := false) (l := false) (t_not (k := true) (t_val (y_cb1 hi hr (Nat.le_refl _) (y_fr0 (yv 0)) ⟨_, rfl, rfl⟩))) fun _ => w_or1 (t_not (k := true) (t_val (y_cb1 hi hr (Nat.le_refl _) (y_fr1 (yv 0)) ⟨_, rfl, rfl⟩))))) (fun z => by cases z) fun _ => s_nil ?_)
  have hn : 0 ≤ q.num := Rat.num_nonneg.mpr hq
  have hd : (1 : Int) ≤ (q.den : Int) := by have := q.den_pos; omega
  have hg : Int.gcd q.num q.den = 1 := q.reduced
  refine s_one (s_ret (y_and (y_cmp o_ge (y_fr0 (yv 0)) y_int rfl) fun _ => y_and (y_cmp o_ge (y_fr1 (yv 0)) y_int rfl) fun _ => y_and1 (y_cmp o_eqI (y_cb2 hc hr (Nat.le_refl _) (y_fr0 (yv 0)) (y_fr1 (yv 0)) ⟨_, _, rfl, rfl⟩) y_int rfl)) ?_)
  show Cl.d (.bool (decide (0 ≤ q.num) && (decide (1 ≤ (q.den : Int)) && decide (((Int.gcd q.num q.den : Nat) : Int) = 1)))) = _
  rw [decide_eq_true hn, decide_eq_true hd, hg]
  rfl
end
end KP
set_option linter.all false
set_option maxRecDepth 100000
set_option maxHeartbeats 4000000
/-! the comprehensions' scopes -/
namespace KP
open PySem PySem.Spec PyProof.Rows L2 KW K68
abbrev z_is_share_0 : Scope := { kind := PySem.ScopeKind.function, names := [ (PySem.Str.ofString ".0", PySem.NameKind.local), (PySem.Str.ofString "one", PySem.NameKind.local), (PySem.Str.ofString "is_fraction", PySem.NameKind.globalImplicit)], isGenerator := false, isCoroutine := false, more := [] : PySem.Scope }
theorem b_is_share_0 : BlkOk ["value", "many", "one"] (defScope s_is_share) z_is_share_0 [("one", 2)] := ⟨rfl, by decide +kernel, by decide +kernel, by decide +kernel, by decide +kernel⟩
abbrev z_mean_of_0 : Scope := { kind := PySem.ScopeKind.function, names := [ (PySem.Str.ofString ".0", PySem.NameKind.local), (PySem.Str.ofString "share", PySem.NameKind.local), (PySem.Str.ofString "one", PySem.NameKind.local), (PySem.Str.ofString "times", PySem.NameKind.globalImplicit)], isGenerator := false, isCoroutine := false, more := [] : PySem.Scope }
theorem b_mean_of_0 : BlkOk ["shares", "some", "share", "one"] (defScope s_mean_of) z_mean_of_0 [("share", 2), ("one", 3)] := ⟨rfl, by decide +kernel, by decide +kernel, by decide +kernel, by decide +kernel⟩
abbrev z_is_row_0 : Scope := { kind := PySem.ScopeKind.function, names := [ (PySem.Str.ofString ".0", PySem.NameKind.local), (PySem.Str.ofString "one", PySem.NameKind.local), (PySem.Str.ofString "is_fraction", PySem.NameKind.globalImplicit)], isGenerator := false, isCoroutine := false, more := [] : PySem.Scope }
theorem b_is_row_0 : BlkOk ["value", "many", "one"] (defScope s_is_row) z_is_row_0 [("one", 2)] := ⟨rfl, by decide +kernel, by decide +kernel, by decide +kernel, by decide +kernel⟩
abbrev z_is_row_1 : Scope := { kind := PySem.ScopeKind.function, names := [ (PySem.Str.ofString ".0", PySem.NameKind.local), (PySem.Str.ofString "one", PySem.NameKind.local), (PySem.Str.ofString "is_less", PySem.NameKind.globalImplicit), (PySem.Str.ofString "MOST_VALUE", PySem.NameKind.globalImplicit)], isGenerator := false, isCoroutine := false, more := [] : PySem.Scope }
theorem b_is_row_1 : BlkOk ["value", "many", "one"] (defScope s_is_row) z_is_row_1 [("one", 2)] := ⟨rfl, by decide +kernel, by decide +kernel, by decide +kernel, by decide +kernel⟩
abbrev z_is_matrix_0 : Scope := { kind := PySem.ScopeKind.function, names := [ (PySem.Str.ofString ".0", PySem.NameKind.local), (PySem.Str.ofString "row", PySem.NameKind.local), (PySem.Str.ofString "is_row", PySem.NameKind.globalImplicit), (PySem.Str.ofString "len", PySem.NameKind.globalImplicit), (PySem.Str.ofString "value", PySem.NameKind.free)], isGenerator := false, isCoroutine := false, more := [] : PySem.Scope }
theorem b_is_matrix_0 : BlkOk ["value", "row"] (defScope s_is_matrix) z_is_matrix_0 [("row", 1)] := ⟨rfl, by decide +kernel, by decide +kernel, by decide +kernel, by decide +kernel⟩
abbrev z_Corner_init_0 : Scope := { kind := PySem.ScopeKind.function, names := [ (PySem.Str.ofString ".0", PySem.NameKind.local), (PySem.Str.ofString "other", PySem.NameKind.local), (PySem.Str.ofString "WHOLE", PySem.NameKind.globalImplicit), (PySem.Str.ofString "NOTHING", PySem.NameKind.globalImplicit), (PySem.Str.ofString "place", PySem.NameKind.free)], isGenerator := false, isCoroutine := false, more := [] : PySem.Scope }
theorem b_Corner_init_0 : BlkOk ["self", "matrix", "many", "wide", "place", "row", "own", "other", "one"] (defScope s_Corner_init) z_Corner_init_0 [("other", 7)] := ⟨rfl, by decide +kernel, by decide +kernel, by decide +kernel, by decide +kernel⟩
abbrev z_Corner_init_1 : Scope := { kind := PySem.ScopeKind.function, names := [ (PySem.Str.ofString ".0", PySem.NameKind.local), (PySem.Str.ofString "one", PySem.NameKind.local), (PySem.Str.ofString "plus", PySem.NameKind.globalImplicit), (PySem.Str.ofString "WHOLE", PySem.NameKind.globalImplicit)], isGenerator := false, isCoroutine := false, more := [] : PySem.Scope }
theorem b_Corner_init_1 : BlkOk ["self", "matrix", "many", "wide", "place", "row", "own", "other", "one"] (defScope s_Corner_init) z_Corner_init_1 [("one", 8)] := ⟨rfl, by decide +kernel, by decide +kernel, by decide +kernel, by decide +kernel⟩
abbrev z_Corner_init_2 : Scope := { kind := PySem.ScopeKind.function, names := [ (PySem.Str.ofString ".0", PySem.NameKind.local), (PySem.Str.ofString "place", PySem.NameKind.local), (PySem.Str.ofString "wide", PySem.NameKind.free)], isGenerator := false, isCoroutine := false, more := [] : PySem.Scope }
theorem b_Corner_init_2 : BlkOk ["self", "matrix", "many", "wide", "place", "row", "own", "other", "one"] (defScope s_Corner_init) z_Corner_init_2 [("place", 4)] := ⟨rfl, by decide +kernel, by decide +kernel, by decide +kernel, by decide +kernel⟩
abbrev z_Corner_entering_0 : Scope := { kind := PySem.ScopeKind.function, names := [ (PySem.Str.ofString ".0", PySem.NameKind.local), (PySem.Str.ofString "at", PySem.NameKind.local), (PySem.Str.ofString "one", PySem.NameKind.local), (PySem.Str.ofString "is_less", PySem.NameKind.globalImplicit), (PySem.Str.ofString "NOTHING", PySem.NameKind.globalImplicit)], isGenerator := false, isCoroutine := false, more := [] : PySem.Scope }
theorem b_Corner_entering_0 : BlkOk ["self", "found", "at", "one"] (defScope s_Corner_entering) z_Corner_entering_0 [("at", 2), ("one", 3)] := ⟨rfl, by decide +kernel, by decide +kernel, by decide +kernel, by decide +kernel⟩
abbrev z_Corner_leaving_0 : Scope := { kind := PySem.ScopeKind.function, names := [(PySem.Str.ofString ".0", PySem.NameKind.local), (PySem.Str.ofString "one", PySem.NameKind.local)], isGenerator := false, isCoroutine := false, more := [] : PySem.Scope }
theorem b_Corner_leaving_0 : BlkOk ["self", "column", "found", "place", "row", "least", "one"] (defScope s_Corner_leaving) z_Corner_leaving_0 [("one", 6)] := ⟨rfl, by decide +kernel, by decide +kernel, by decide +kernel, by decide +kernel⟩
abbrev z_Corner_leaving_1 : Scope := { kind := PySem.ScopeKind.function, names := [ (PySem.Str.ofString ".0", PySem.NameKind.local), (PySem.Str.ofString "one", PySem.NameKind.local), (PySem.Str.ofString "least", PySem.NameKind.free)], isGenerator := false, isCoroutine := false, more := [] : PySem.Scope }
theorem b_Corner_leaving_1 : BlkOk ["self", "column", "found", "place", "row", "least", "one"] (defScope s_Corner_leaving) z_Corner_leaving_1 [("one", 6)] := ⟨rfl, by decide +kernel, by decide +kernel, by decide +kernel, by decide +kernel⟩
abbrev z_Corner_turn_0 : Scope := { kind := PySem.ScopeKind.function, names := [ (PySem.Str.ofString ".0", PySem.NameKind.local), (PySem.Str.ofString "one", PySem.NameKind.local), (PySem.Str.ofString "divided", PySem.NameKind.globalImplicit), (PySem.Str.ofString "head", PySem.NameKind.free)], isGenerator := false, isCoroutine := false, more := [] : PySem.Scope }
theorem b_Corner_turn_0 : BlkOk ["self", "place", "column", "head", "other", "one", "at"] (defScope s_Corner_turn) z_Corner_turn_0 [("one", 5)] := ⟨rfl, by decide +kernel, by decide +kernel, by decide +kernel, by decide +kernel⟩
abbrev z_Corner_turn_1 : Scope := { kind := PySem.ScopeKind.function, names := [ (PySem.Str.ofString ".0", PySem.NameKind.local), (PySem.Str.ofString "at", PySem.NameKind.local), (PySem.Str.ofString "place", PySem.NameKind.free)], isGenerator := false, isCoroutine := false, more := [] : PySem.Scope }
theorem b_Corner_turn_1 : BlkOk ["self", "place", "column", "head", "other", "one", "at"] (defScope s_Corner_turn) z_Corner_turn_1 [("at", 6)] := ⟨rfl, by decide +kernel, by decide +kernel, by decide +kernel, by decide +kernel⟩
abbrev z_Corner_columns_0 : Scope := { kind := PySem.ScopeKind.function, names := [ (PySem.Str.ofString ".0", PySem.NameKind.local), (PySem.Str.ofString "base", PySem.NameKind.local), (PySem.Str.ofString "row", PySem.NameKind.local)], isGenerator := false, isCoroutine := false, more := [] : PySem.Scope }
theorem b_Corner_columns_0 : BlkOk ["self", "wide", "known", "column", "base", "row"] (defScope s_Corner_columns) z_Corner_columns_0 [("base", 4), ("row", 5)] := ⟨rfl, by decide +kernel, by decide +kernel, by decide +kernel, by decide +kernel⟩
abbrev z_Corner_columns_1 : Scope := { kind := PySem.ScopeKind.function, names := [ (PySem.Str.ofString ".0", PySem.NameKind.local), (PySem.Str.ofString "column", PySem.NameKind.local), (PySem.Str.ofString "NOTHING", PySem.NameKind.globalImplicit), (PySem.Str.ofString "known", PySem.NameKind.free)], isGenerator := false, isCoroutine := false, more := [] : PySem.Scope }
theorem b_Corner_columns_1 : BlkOk ["self", "wide", "known", "column", "base", "row"] (defScope s_Corner_columns) z_Corner_columns_1 [("column", 3)] := ⟨rfl, by decide +kernel, by decide +kernel, by decide +kernel, by decide +kernel⟩
abbrev z_less_times_0 : Scope := { kind := PySem.ScopeKind.function, names := [ (PySem.Str.ofString ".0", PySem.NameKind.local), (PySem.Str.ofString "one", PySem.NameKind.local), (PySem.Str.ofString "two", PySem.NameKind.local), (PySem.Str.ofString "minus", PySem.NameKind.globalImplicit), (PySem.Str.ofString "times", PySem.NameKind.globalImplicit), (PySem.Str.ofString "often", PySem.NameKind.free)], isGenerator := false, isCoroutine := false, more := [] : PySem.Scope }
theorem b_less_times_0 : BlkOk ["row", "other", "column", "often", "one", "two"] (defScope s_less_times) z_less_times_0 [("one", 4), ("two", 5)] := ⟨rfl, by decide +kernel, by decide +kernel, by decide +kernel, by decide +kernel⟩
abbrev z_solved_0 : Scope := { kind := PySem.ScopeKind.function, names := [ (PySem.Str.ofString ".0", PySem.NameKind.local), (PySem.Str.ofString "one", PySem.NameKind.local), (PySem.Str.ofString "divided", PySem.NameKind.globalImplicit), (PySem.Str.ofString "whole", PySem.NameKind.free)], isGenerator := false, isCoroutine := false, more := [] : PySem.Scope }
theorem b_solved_0 : BlkOk ["matrix", "many", "wide", "corner", "columns", "rows", "whole", "value", "one"] (defScope s_solved) z_solved_0 [("one", 8)] := ⟨rfl, by decide +kernel, by decide +kernel, by decide +kernel, by decide +kernel⟩
abbrev z_solved_1 : Scope := { kind := PySem.ScopeKind.function, names := [ (PySem.Str.ofString ".0", PySem.NameKind.local), (PySem.Str.ofString "one", PySem.NameKind.local), (PySem.Str.ofString "divided", PySem.NameKind.globalImplicit), (PySem.Str.ofString "whole", PySem.NameKind.free)], isGenerator := false, isCoroutine := false, more := [] : PySem.Scope }
theorem b_solved_1 : BlkOk ["matrix", "many", "wide", "corner", "columns", "rows", "whole", "value", "one"] (defScope s_solved) z_solved_1 [("one", 8)] := ⟨rfl, by decide +kernel, by decide +kernel, by decide +kernel, by decide +kernel⟩
abbrev z_shows_matrix_0 : Scope := { kind := PySem.ScopeKind.function, names := [ (PySem.Str.ofString ".0", PySem.NameKind.local), (PySem.Str.ofString "column", PySem.NameKind.local), (PySem.Str.ofString "mean_of", PySem.NameKind.globalImplicit), (PySem.Str.ofString "value", PySem.NameKind.free)], isGenerator := false, isCoroutine := false, more := [] : PySem.Scope }
theorem b_shows_matrix_0 : BlkOk ["matrix", "value", "least", "most", "column", "row"] (defScope s_shows_matrix) z_shows_matrix_0 [("column", 4)] := ⟨rfl, by decide +kernel, by decide +kernel, by decide +kernel, by decide +kernel⟩
abbrev z_shows_matrix_1 : Scope := { kind := PySem.ScopeKind.function, names := [ (PySem.Str.ofString ".0", PySem.NameKind.local), (PySem.Str.ofString "row", PySem.NameKind.local), (PySem.Str.ofString "mean_of", PySem.NameKind.globalImplicit), (PySem.Str.ofString "value", PySem.NameKind.free)], isGenerator := false, isCoroutine := false, more := [] : PySem.Scope }
theorem b_shows_matrix_1 : BlkOk ["matrix", "value", "least", "most", "column", "row"] (defScope s_shows_matrix) z_shows_matrix_1 [("row", 5)] := ⟨rfl, by decide +kernel, by decide +kernel, by decide +kernel, by decide +kernel⟩
abbrev z__law_matrix_0 : Scope := { kind := PySem.ScopeKind.function, names := [ (PySem.Str.ofString ".0", PySem.NameKind.local), (PySem.Str.ofString "column", PySem.NameKind.local), (PySem.Str.ofString "_law_short", PySem.NameKind.globalImplicit), (PySem.Str.ofString "int", PySem.NameKind.globalImplicit), (PySem.Str.ofString "_law_take", PySem.NameKind.globalImplicit), (PySem.Str.ofString "low", PySem.NameKind.free), (PySem.Str.ofString "pot", PySem.NameKind.free), (PySem.Str.ofString "some", PySem.NameKind.free)], isGenerator := false, isCoroutine := false, more := [] : PySem.Scope }
theorem b__law_matrix_0 : BlkOk ["pot", "rows", "columns", "low", "some", "found", "row", "column"] (defScope s__law_matrix) z__law_matrix_0 [("column", 7)] := ⟨rfl, by decide +kernel, by decide +kernel, by decide +kernel, by decide +kernel⟩
abbrev z__law_corners_0 : Scope := { kind := PySem.ScopeKind.function, names := [ (PySem.Str.ofString ".0", PySem.NameKind.local), (PySem.Str.ofString "row", PySem.NameKind.local), (PySem.Str.ofString "far", PySem.NameKind.free), (PySem.Str.ofString "number", PySem.NameKind.free)], isGenerator := false, isCoroutine := false, more := [] : PySem.Scope }
theorem b__law_corners_0 : BlkOk ["one", "other", "number", "wide", "far", "row"] (defScope s__law_corners) z__law_corners_0 [("row", 5)] := ⟨rfl, by decide +kernel, by decide +kernel, by decide +kernel, by decide +kernel⟩
abbrev z__law_corners_1 : Scope := { kind := PySem.ScopeKind.function, names := [ (PySem.Str.ofString ".0", PySem.NameKind.local), (PySem.Str.ofString "row", PySem.NameKind.local), (PySem.Str.ofString "number", PySem.NameKind.free), (PySem.Str.ofString "wide", PySem.NameKind.free)], isGenerator := false, isCoroutine := false, more := [] : PySem.Scope }
theorem b__law_corners_1 : BlkOk ["one", "other", "number", "wide", "far", "row"] (defScope s__law_corners) z__law_corners_1 [("row", 5)] := ⟨rfl, by decide +kernel, by decide +kernel, by decide +kernel, by decide +kernel⟩
abbrev z__law_joined_0 : Scope := { kind := PySem.ScopeKind.function, names := [ (PySem.Str.ofString ".0", PySem.NameKind.local), (PySem.Str.ofString "gain", PySem.NameKind.local), (PySem.Str.ofString "_law_times", PySem.NameKind.globalImplicit), (PySem.Str.ofString "_law_inverse", PySem.NameKind.globalImplicit), (PySem.Str.ofString "whole", PySem.NameKind.free)], isGenerator := false, isCoroutine := false, more := [] : PySem.Scope }
theorem b__law_joined_0 : BlkOk ["one", "other", "gains", "whole", "parts", "gain", "share"] (defScope s__law_joined) z__law_joined_0 [("gain", 5)] := ⟨rfl, by decide +kernel, by decide +kernel, by decide +kernel, by decide +kernel⟩
abbrev z__law_joined_1 : Scope := { kind := PySem.ScopeKind.function, names := [ (PySem.Str.ofString ".0", PySem.NameKind.local), (PySem.Str.ofString "share", PySem.NameKind.local), (PySem.Str.ofString "_law_times", PySem.NameKind.globalImplicit), (PySem.Str.ofString "parts", PySem.NameKind.free)], isGenerator := false, isCoroutine := false, more := [] : PySem.Scope }
theorem b__law_joined_1 : BlkOk ["one", "other", "gains", "whole", "parts", "gain", "share"] (defScope s__law_joined) z__law_joined_1 [("share", 6)] := ⟨rfl, by decide +kernel, by decide +kernel, by decide +kernel, by decide +kernel⟩
abbrev z__law_joined_2 : Scope := { kind := PySem.ScopeKind.function, names := [ (PySem.Str.ofString ".0", PySem.NameKind.local), (PySem.Str.ofString "share", PySem.NameKind.local), (PySem.Str.ofString "_law_times", PySem.NameKind.globalImplicit), (PySem.Str.ofString "parts", PySem.NameKind.free)], isGenerator := false, isCoroutine := false, more := [] : PySem.Scope }
theorem b__law_joined_2 : BlkOk ["one", "other", "gains", "whole", "parts", "gain", "share"] (defScope s__law_joined) z__law_joined_2 [("share", 6)] := ⟨rfl, by decide +kernel, by decide +kernel, by decide +kernel, by decide +kernel⟩
abbrev z__law_are_corners_right_0 : Scope := { kind := PySem.ScopeKind.function, names := [ (PySem.Str.ofString ".0", PySem.NameKind.local), (PySem.Str.ofString "lap", PySem.NameKind.local), (PySem.Str.ofString "_law_take", PySem.NameKind.globalImplicit), (PySem.Str.ofString "pot", PySem.NameKind.free)], isGenerator := false, isCoroutine := false, more := [] : PySem.Scope }
theorem b__law_are_corners_right_0 : BlkOk ["pot", "sides", "one", "other", "first", "second", "matrix", "told", "number", "both", "due", "line", "sign", "gains", "paper", "lap", "row"] (defScope s__law_are_corners_right) z__law_are_corners_right_0 [("lap", 15)] := ⟨rfl, by decide +kernel, by decide +kernel, by decide +kernel, by decide +kernel⟩
abbrev z__law_are_corners_right_1 : Scope := { kind := PySem.ScopeKind.function, names := [(PySem.Str.ofString ".0", PySem.NameKind.local), (PySem.Str.ofString "row", PySem.NameKind.local)], isGenerator := false, isCoroutine := false, more := [] : PySem.Scope }
theorem b__law_are_corners_right_1 : BlkOk ["pot", "sides", "one", "other", "first", "second", "matrix", "told", "number", "both", "due", "line", "sign", "gains", "paper", "lap", "row"] (defScope s__law_are_corners_right) z__law_are_corners_right_1 [("row", 16)] := ⟨rfl, by decide +kernel, by decide +kernel, by decide +kernel, by decide +kernel⟩
abbrev z__law_are_sides_right_0 : Scope := { kind := PySem.ScopeKind.function, names := [ (PySem.Str.ofString ".0", PySem.NameKind.local), (PySem.Str.ofString "row", PySem.NameKind.local), (PySem.Str.ofString "its", PySem.NameKind.local)], isGenerator := false, isCoroutine := false, more := [] : PySem.Scope }
theorem b__law_are_sides_right_0 : BlkOk ["pot", "rows", "columns", "one", "other", "first", "second", "least", "most", "beside", "below", "again", "more", "line", "told", "paper", "great", "row", "its", "share"] (defScope s__law_are_sides_right) z__law_are_sides_right_0 [("row", 17), ("its", 18)] := ⟨rfl, by decide +kernel, by decide +kernel, by decide +kernel, by decide +kernel⟩
abbrev z__law_are_sides_right_1 : Scope := { kind := PySem.ScopeKind.function, names := [(PySem.Str.ofString ".0", PySem.NameKind.local), (PySem.Str.ofString "row", PySem.NameKind.local)], isGenerator := false, isCoroutine := false, more := [] : PySem.Scope }
theorem b__law_are_sides_right_1 : BlkOk ["pot", "rows", "columns", "one", "other", "first", "second", "least", "most", "beside", "below", "again", "more", "line", "told", "paper", "great", "row", "its", "share"] (defScope s__law_are_sides_right) z__law_are_sides_right_1 [("row", 17)] := ⟨rfl, by decide +kernel, by decide +kernel, by decide +kernel, by decide +kernel⟩
abbrev z__law_are_sides_right_2 : Scope := { kind := PySem.ScopeKind.function, names := [ (PySem.Str.ofString ".0", PySem.NameKind.local), (PySem.Str.ofString "row", PySem.NameKind.local), (PySem.Str.ofString "tuple", PySem.NameKind.globalImplicit), (PySem.Str.ofString "more", PySem.NameKind.free)], isGenerator := false, isCoroutine := false, more := [] : PySem.Scope }
theorem b__law_are_sides_right_2 : BlkOk ["pot", "rows", "columns", "one", "other", "first", "second", "least", "most", "beside", "below", "again", "more", "line", "told", "paper", "great", "row", "its", "share"] (defScope s__law_are_sides_right) z__law_are_sides_right_2 [("row", 17)] := ⟨rfl, by decide +kernel, by decide +kernel, by decide +kernel, by decide +kernel⟩
abbrev z__law_are_sides_right_3 : Scope := { kind := PySem.ScopeKind.function, names := [ (PySem.Str.ofString ".0", PySem.NameKind.local), (PySem.Str.ofString "share", PySem.NameKind.local), (PySem.Str.ofString "_law_plus", PySem.NameKind.globalImplicit), (PySem.Str.ofString "_law_times", PySem.NameKind.globalImplicit), (PySem.Str.ofString "more", PySem.NameKind.free)], isGenerator := false, isCoroutine := false, more := [] : PySem.Scope }
abbrev z__law_are_sides_right_4 : Scope := { kind := PySem.ScopeKind.function, names := [ (PySem.Str.ofString ".0", PySem.NameKind.local), (PySem.Str.ofString "row", PySem.NameKind.local), (PySem.Str.ofString "columns", PySem.NameKind.free)], isGenerator := false, isCoroutine := false, more := [] : PySem.Scope }
theorem b__law_are_sides_right_4 : BlkOk ["pot", "rows", "columns", "one", "other", "first", "second", "least", "most", "beside", "below", "again", "more", "line", "told", "paper", "great", "row", "its", "share"] (defScope s__law_are_sides_right) z__law_are_sides_right_4 [("row", 17)] := ⟨rfl, by decide +kernel, by decide +kernel, by decide +kernel, by decide +kernel⟩
end KP
set_option linter.all false
set_option maxRecDepth 100000
set_option maxHeartbeats 4000000
/-! is_share, mean_of, is_row, is_matrix, check_matrix, columns_of, less_times -/
namespace KP
open PySem PySem.Spec PyProof.Rows L2 KW K68
section
variable {P : Program} {w : World} {K : PySem.W.Frag} {mg : Str → Option Value} {base : Heap}
theorem eqv_fr (q : Rat) : PyData.eqv (frD q) (frD q) = true := by simp [frD, PyData.eqv, PyData.eqvAll]
theorem shp_fr (q : Rat) : SeqAt.shaped (frD q) = true := by simp [frD, SeqAt.shaped, PyData.canLay0, PyData.canLayAll0, PyData.depth, PyData.depthAll]
/-- is_share: of what is one -/
def R_share (cs : List Cl) (d : PyData) : Prop := ∃ l : List Rat, cs = [.d (.tuple (frs l)), .d (.int (l.length : Nat))] ∧ l.length ≤ 1000 ∧ SumOk l ∧ (∀ q ∈ l, 0 ≤ q) ∧ l.sum = 1 ∧ d = .bool true
theorem ok_share (B : Bl mg) (h : Has K mg "is_share" s_is_share ["value", "many"]) (hw : GC K mg "WHOLE" (frD 1)) (hf : Cb P w K mg base 2 "is_fraction" R_isfr) (hs : Cb P w K mg base 4 "sum_of" R_sum) : Cb P w K mg base 5 "is_share" R_share := by
  refine Cb.of (k := 4) h c_is_share (fun cs d h => by obtain ⟨i, rfl, _⟩ := h; rfl) fun f cdv A outer s H E hr cs d h => ?_
  obtain ⟨l, rfl, hz, hsum, hnn, h1, rfl⟩ := h
  refine s_cons (s_if (t_w (w_or (t_not (t_val (y_b2 (c_isi (kit1 rfl)) B.isinstance (yv 0) (y_ty rfl B.tuple (by decide +kernel))))) fun _ => w_or (t_cmp o_neI (y_b1 (c_lenT (ds := frs l)) B.len (yv 0)) (yv 1) rfl) fun _ => w_or1 (t_not (t_val (y_b1 (c_allT (l := l)) B.all (y_lcN (rs := (l.map fun _ => true).map PyData.bool) c_is_share.nd 2 (i_tup (yv 0)) b_is_share_0 (by rw [bools_len, frs_len]) (fun i d r hd hr' s H0 C cl fp => ?_) ?_)))))) (fun z => absurd z ?_) fun _ => s_nil ?_)
  · obtain ⟨q, e, rfl⟩ := frs_at hd
    rw [bools_at hr']
    exact y_cb1 hf hr (by decide) (yv 2) ⟨q, rfl, hnn q (List.mem_of_getElem? e), rfl⟩
  · rw [frs_len]; omega
  · simp [frs_len]
  refine s_one (s_ret (y_cmp (o_eqD (d := frD l.sum) (e := frD 1) hr.units (shp_fr _) (shp_fr _)) (y_cb1 hs hr (Nat.le_refl _) (yv 0) ⟨l, _, rfl, .tup, hsum, rfl⟩) (y_gc hw) rfl) ?_)
  show Cl.d (.bool _) = _
  rw [h1, eqv_fr]
end
end KP
set_option linter.all false
set_option maxRecDepth 100000
set_option maxHeartbeats 4000000
/-! mean_of, is_row, is_matrix, check_matrix, columns_of, less_times -/
namespace KP
open PySem PySem.Spec PyProof.Rows L2 KW K68
section
variable {P : Program} {w : World} {K : PySem.W.Frag} {mg : Str → Option Value} {base : Heap}
theorem frs_get {l : List Rat} {i : Nat} {q : Rat} (h : l[i]? = some q) : (frs l)[i]? = some (frD q) := by unfold frs; rw [List.getElem?_map, h]; rfl
theorem zip_frs {xs ys : List Rat} {f : Rat → Rat → Rat} {i : Nat} {d r : PyData} (hd : (zipD (frs xs) (frs ys))[i]? = some d) (hr : (frs (List.zipWith f xs ys))[i]? = some r) : ∃ x y, xs[i]? = some x ∧ ys[i]? = some y ∧ d = .tuple [frD x, frD y] ∧ r = frD (f x y) := by
  obtain ⟨a, b, ha, hb, rfl⟩ := zipD_at hd
  obtain ⟨x, ex, rfl⟩ := frs_at ha
  obtain ⟨y, ey, rfl⟩ := frs_at hb
  obtain ⟨q, eq, rfl⟩ := frs_at hr
  rw [List.getElem?_zipWith, ex, ey] at eq
  cases eq
  exact ⟨x, y, ex, ey, rfl, rfl⟩
theorem zip_len {xs ys : List Rat} {f : Rat → Rat → Rat} : (frs (List.zipWith f xs ys)).length = (zipD (frs xs) (frs ys)).length := by rw [frs_len, zipD_len, frs_len, frs_len, List.length_zipWith]
def R_mean (cs : List Cl) (d : PyData) : Prop := ∃ xs ys : List Rat, cs = [.d (.tuple (frs xs)), .d (.tuple (frs ys))] ∧ xs.length ≤ 1000 ∧ (∀ x ∈ xs, Sm x) ∧ (∀ y ∈ ys, Sm y) ∧ SumOk (List.zipWith (· * ·) xs ys) ∧ d = frD (List.zipWith (· * ·) xs ys).sum
theorem ok_mean (B : Bl mg) (h : Has K mg "mean_of" s_mean_of ["shares", "some"]) (ht : Cb P w K mg base 3 "times" R_times) (hs : Cb P w K mg base 4 "sum_of" R_sum) : Cb P w K mg base 5 "mean_of" R_mean := by
  refine Cb.of (k := 4) h c_mean_of (fun cs d h => by obtain ⟨xs, ys, rfl, _⟩ := h; rfl) fun f cdv A outer s H E hr cs d h => ?_
  obtain ⟨xs, ys, rfl, hz, hx, hy, hsum, rfl⟩ := h
  refine s_one (s_ret (y_cb1 hs hr (Nat.le_refl _) (y_lcP (rs := frs (List.zipWith (· * ·) xs ys)) c_mean_of.nd 2 3 (i_zipT rfl B.zip (yv 0) (yv 1)) b_mean_of_0 zip_len (fun i d r hd hr' => ?_) ?_) ⟨_, _, rfl, .lst, hsum, rfl⟩) rfl)
  · obtain ⟨x, y, ex, ey, rfl, rfl⟩ := zip_frs hd hr'
    exact ⟨_, _, rfl, fun s H0 C cl fp => y_cb2 ht hr (by decide) (yv 2) (yv 3) ⟨x, y, rfl, .inl ⟨hx x (List.mem_of_getElem? ex), hy y (List.mem_of_getElem? ey)⟩, True.intro, rfl⟩⟩
  · rw [zipD_len, frs_len, frs_len]; omega
/-! matrices -/
abbrev Mx := List (List Rat)
def rowD (r : List Rat) : PyData := .tuple (frs r)
def matD (M : Mx) : PyData := .tuple (M.map rowD)
structure Mok (M : Mx) (n : Nat) : Prop where
  m1 : 1 ≤ M.length
  n1 : 1 ≤ n
  sz : M.length * n ≤ 64
  wd : ∀ r ∈ M, r.length = n
  en : ∀ r ∈ M, ∀ q ∈ r, 0 ≤ q ∧ q ≤ 100 ∧ Sm q
theorem Mok.m64 {M : Mx} {n : Nat} (h : Mok M n) : M.length ≤ 64 := by
  have h1 := h.sz
  have h2 : M.length * 1 ≤ M.length * n := Nat.mul_le_mul_left _ h.n1
  omega
theorem Mok.n64 {M : Mx} {n : Nat} (h : Mok M n) : n ≤ 64 := by
  have h1 := h.sz
  have h2 : 1 * n ≤ M.length * n := Nat.mul_le_mul_right _ h.m1
  omega
theorem mat_at {M : Mx} {i : Nat} {d : PyData} (h : (M.map rowD)[i]? = some d) : ∃ r, M[i]? = some r ∧ d = rowD r := by
  rw [List.getElem?_map] at h
  cases e : M[i]? with
  | none => rw [e] at h; cases h
  | some q => rw [e] at h; cases h; exact ⟨q, rfl, rfl⟩
theorem sm100 : Sm 100 := by
  have e1 : (100 : Rat).num = 100 := rfl
  have e2 : (100 : Rat).den = 1 := rfl
  exact ⟨by rw [e1]; unfold Bt; decide, by rw [e2]; unfold Bt; decide⟩
def R_row (cs : List Cl) (d : PyData) : Prop := ∃ l : List Rat, cs = [.d (rowD l), .d (.int (l.length : Nat))] ∧ l.length ≤ 1000 ∧ (∀ q ∈ l, 0 ≤ q ∧ q ≤ 100 ∧ Sm q) ∧ d = .bool true
theorem ok_row (B : Bl mg) (h : Has K mg "is_row" s_is_row ["value", "many"]) (hm : GC K mg "MOST_VALUE" (frD 100)) (hf : Cb P w K mg base 2 "is_fraction" R_isfr) (hl : Cb P w K mg base 1 "is_less" R_less) : Cb P w K mg base 3 "is_row" R_row := by
  refine Cb.of (k := 2) h c_is_row (fun cs d h => by obtain ⟨i, rfl, _⟩ := h; rfl) fun f cdv A outer s H E hr cs d h => ?_
  obtain ⟨l, rfl, hz, hq, rfl⟩ := h
  refine s_cons (s_if (t_w (w_or (t_not (t_val (y_b2 (c_isi (kit1 rfl)) B.isinstance (yv 0) (y_ty rfl B.tuple (by decide +kernel))))) fun _ => w_or (t_cmp o_neI (y_b1 (c_lenT (ds := frs l)) B.len (yv 0)) (yv 1) rfl) fun _ => w_or1 (t_not (t_val (y_b1 (c_allT (l := l)) B.all (y_lcN (rs := (l.map fun _ => true).map PyData.bool) c_is_row.nd 2 (i_tup (ds := frs l) (yv 0)) b_is_row_0 (by rw [bools_len, frs_len]) (fun i d r hd hr' s H0 C cl fp => ?_) ?_)))))) (fun z => absurd z ?_) fun _ => s_nil ?_)
  · obtain ⟨q, e, rfl⟩ := frs_at hd
    rw [bools_at hr']
    exact y_cb1 hf hr (by decide) (yv 2) ⟨q, rfl, (hq q (List.mem_of_getElem? e)).1, rfl⟩
  · rw [frs_len]; omega
  · simp [frs_len]
  refine s_one (s_ret (y_not (y_b1 (c_anyF (l := l)) B.any (y_lcN (rs := (l.map fun _ => false).map PyData.bool) c_is_row.nd 2 (i_tup (ds := frs l) (yv 0)) b_is_row_1 (by rw [bools_len, frs_len]) (fun i d r hd hr' s H0 C cl fp => ?_) ?_))) rfl)
  · obtain ⟨q, e, rfl⟩ := frs_at hd
    rw [bools_at hr']
    obtain ⟨_, h2, h3⟩ := hq q (List.mem_of_getElem? e)
    exact y_cb2 hl hr (by decide) (y_gc hm) (yv 2) ⟨100, q, rfl, sm100.md, h3.md, by rw [decide_eq_false (Rat.not_lt.mpr h2)]⟩
  · rw [frs_len]; omega
def R_mat (cs : List Cl) (d : PyData) : Prop := ∃ (M : Mx) (n : Nat), cs = [.d (matD M)] ∧ Mok M n ∧ d = .bool true
theorem ok_mat (B : Bl mg) (h : Has K mg "is_matrix" s_is_matrix ["value"]) (hm : GC K mg "MOST_SIDE" (.int 64)) (hf : Cb P w K mg base 3 "is_row" R_row) : Cb P w K mg base 4 "is_matrix" R_mat := by
  refine Cb.of (k := 3) h c_is_matrix (fun cs d h => by obtain ⟨i, _, rfl, _⟩ := h; rfl) fun f cdv A outer s H E hr cs d h => ?_
  obtain ⟨M, n, rfl, ok, rfl⟩ := h
  have hn := ok.n64
  have hM := ok.m64
  cases hMe : M with
  | nil => have := ok.m1; rw [hMe] at this; simp at this
  | cons r0 M0 =>
    rw [← hMe]
    have hr0 : r0.length = n := ok.wd r0 (by rw [hMe]; exact List.mem_cons_self)
    have at0 : atI (M.map rowD) 0 = some (rowD r0) := atI_nat (j := 0) (by rw [hMe]; rfl)
    have m1 := ok.m1
    have n1 := ok.n1
    have sz := ok.sz
    refine s_cons (s_if (t_w (w_or (t_not (t_val (y_b2 (c_isi (kit1 rfl)) B.isinstance (yv 0) (y_ty rfl B.tuple (by decide +kernel))))) fun _ => w_or (t_not (t_chain y_int (y_b1 (c_lenT (ds := M.map rowD)) B.len (yv 0)) (y_gc hm))) fun _ => w_or1 (t_not (t_val (y_b2 (c_isi (d := rowD r0) (kit1 rfl)) B.isinstance (y_ix (x_tup (ds := M.map rowD) at0) (yv 0) y_int) (y_ty rfl B.tuple (by decide +kernel))))))) (fun z => absurd z ?_) fun _ => s_nil ?_)
    · rw [List.length_map]
      simp
      omega
    refine s_cons (s_if (t_w (w_or (t_not (t_chain y_int (y_b1 (c_lenT (ds := frs r0)) B.len (y_ix (x_tup (ds := M.map rowD) at0) (yv 0) y_int)) (y_gc hm))) fun _ => w_or1 (t_cmp o_gt (y_op (o_mul ?_) (y_b1 (c_lenT (ds := M.map rowD)) B.len (yv 0)) (y_b1 (c_lenT (ds := frs r0)) B.len (y_ix (x_tup (ds := M.map rowD) at0) (yv 0) y_int))) (y_gc hm) rfl))) (fun z => absurd z ?_) fun _ => s_nil ?_)
    · rw [List.length_map, frs_len, hr0]
      exact mulOk (a := 10) (b := 10) (by unfold Bt; rw [Int.natAbs_natCast]; omega) (by unfold Bt; rw [Int.natAbs_natCast]; omega)
    · rw [List.length_map, frs_len, hr0]
      simp
      have : ((M.length : Int) * (n : Int)) = ((M.length * n : Nat) : Int) := by rw [Int.natCast_mul]
      omega
    refine s_one (s_ret (y_b1 (c_allT (l := M)) B.all (y_lcN (rs := (M.map fun _ => true).map PyData.bool) c_is_matrix.nd 1 (i_tup (ds := M.map rowD) (yv 0)) b_is_matrix_0 (by rw [bools_len, List.length_map]) (fun i d r hd hr' s H0 C cl fp => ?_) ?_)) rfl)
    · obtain ⟨q, e, rfl⟩ := mat_at hd
      rw [bools_at hr']
      have mq := List.mem_of_getElem? e
      exact y_cb2 hf hr (by decide) (yv 1) (y_b1 (c_lenT (ds := frs r0)) B.len (y_ix (x_tup (ds := M.map rowD) at0) (yv 0) y_int)) ⟨q, by rw [frs_len, hr0, ok.wd q mq], by rw [ok.wd q mq]; omega, ok.en q mq, rfl⟩
    · rw [List.length_map]; omega
end
end KP
set_option linter.all false
set_option maxRecDepth 100000
set_option maxHeartbeats 4000000
/-! check_matrix, columns_of, less_times -/
namespace KP
open PySem PySem.Spec PyProof.Rows L2 KW K68
section
variable {P : Program} {w : World} {K : PySem.W.Frag} {mg : Str → Option Value} {base : Heap}
def R_check (cs : List Cl) (d : PyData) : Prop := ∃ (M : Mx) (n : Nat), cs = [.d (matD M)] ∧ Mok M n ∧ d = .none
theorem ok_check (h : Has K mg "check_matrix" s_check_matrix ["matrix"]) (hm : Cb P w K mg base 4 "is_matrix" R_mat) : Cb P w K mg base 5 "check_matrix" R_check := by
  refine Cb.of (k := 4) h c_check_matrix (fun cs d h => by obtain ⟨i, _, rfl, _⟩ := h; rfl) fun f cdv A outer s H E hr cs d h => ?_
  obtain ⟨M, n, rfl, ok, rfl⟩ := h
  exact s_one (s_if (k := false) (t_not (k := true) (t_val (y_cb1 hm hr (Nat.le_refl _) (yv 0) ⟨M, n, rfl, ok, rfl⟩))) (fun z => by cases z) fun _ => s_nil rfl)
def colM (M : Mx) (k : Nat) : List Rat := M.map fun r => r.getD k 0
theorem col_eq {M : Mx} {n : Nat} (hw : ∀ r ∈ M, r.length = n) : colD (M.map frs) n = (List.range n).map fun k => rowD (colM M k) := by
  unfold colD
  refine List.map_congr_left fun k hk => ?_
  have hk' := List.mem_range.mp hk
  unfold rowD colM frs
  rw [List.map_map, List.map_map]
  congr 1
  refine List.map_congr_left fun r hr => ?_
  have hl := hw r hr
  show (List.map frD r).getD k .none = frD (r.getD k 0)
  rw [List.getD_eq_getElem?_getD, List.getD_eq_getElem?_getD, List.getElem?_map, List.getElem?_eq_getElem (by omega)]
  rfl
def R_cols (cs : List Cl) (d : PyData) : Prop := ∃ (M : Mx) (n : Nat), cs = [.d (matD M)] ∧ 1 ≤ M.length ∧ M.length ≤ 8 ∧ 1 ≤ n ∧ n ≤ 1000 ∧ (∀ r ∈ M, r.length = n) ∧ d = .list ((List.range n).map fun k => rowD (colM M k))
theorem ok_cols (B : Bl mg) (h : Has K mg "columns_of" s_columns_of ["matrix"]) : Cb P w K mg base 1 "columns_of" R_cols := by
  refine Cb.of (k := 0) h c_columns_of (fun cs d h => by obtain ⟨i, _, rfl, _⟩ := h; rfl) fun f cdv A outer s H E hr cs d h => ?_
  obtain ⟨M, n, rfl, h1, h8, n1, hn, hw, rfl⟩ := h
  have e : matD M = .tuple ((M.map frs).map .tuple) := by
    unfold matD
    rw [List.map_map]
    rfl
  rw [e, ← col_eq hw]
  exact s_one (s_ret (y_listzip rfl B.list rfl B.zip rfl (yv 0) (by rw [List.length_map]; exact h1) (by rw [List.length_map]; exact h8) n1 hn (fun r hr => by obtain ⟨q, hq, rfl⟩ := List.mem_map.mp hr; rw [frs_len]; exact hw q hq)) rfl)
/-! less_times -/
def lessT (row other : List Rat) (c : Nat) : List Rat := List.zipWith (fun one two => one - row.getD c 0 * two) row other
def R_lesst (cs : List Cl) (d : PyData) : Prop := ∃ (row other : List Rat) (c : Nat), cs = [.d (.list (frs row)), .d (.list (frs other)), .d (.int (c : Nat))] ∧ row.length ≤ 1000 ∧ c < row.length ∧ (∀ x ∈ row, Sm x) ∧ (∀ x ∈ other, Sm x) ∧ (∀ x ∈ lessT row other c, Sm x) ∧ d = .list (frs (lessT row other c))
theorem zip_frsL {xs ys : List Rat} {f : Rat → Rat → Rat} {i : Nat} {d r : PyData} (hd : (zipD (frs xs) (frs ys))[i]? = some d) (hr : (frs (List.zipWith f xs ys))[i]? = some r) : ∃ x y, xs[i]? = some x ∧ ys[i]? = some y ∧ d = .tuple [frD x, frD y] ∧ r = frD (f x y) ∧ (List.zipWith f xs ys)[i]? = some (f x y) := by
  obtain ⟨x, y, ex, ey, e1, e2⟩ := zip_frs hd hr
  exact ⟨x, y, ex, ey, e1, e2, by rw [List.getElem?_zipWith, ex, ey]⟩
theorem ok_lesst (B : Bl mg) (h : Has K mg "less_times" s_less_times ["row", "other", "column"]) (ht : Cb P w K mg base 3 "times" R_times) (hm : Cb P w K mg base 3 "minus" R_minus) : Cb P w K mg base 4 "less_times" R_lesst := by
  refine Cb.of (k := 3) h c_less_times (fun cs d h => by obtain ⟨row, other, c, rfl, _⟩ := h; rfl) fun f cdv A outer s H E hr cs d h => ?_
  obtain ⟨row, other, c, rfl, hz, hc, h1, h2, h3, rfl⟩ := h
  have ec : row[c]? = some (row.getD c 0) := by rw [List.getD_eq_getElem?_getD, List.getElem?_eq_getElem hc]; rfl
  have sc : Sm (row.getD c 0) := h1 _ (List.mem_of_getElem? ec)
  refine s_cons (s_set (i := 3) c_less_times.nd rfl (.inr rfl) (y_ix (x_lst (ds := frs row) (atI_nat (frs_get ec))) (yv 0) (yv 2)) ?_)
  refine s_one (s_ret (y_lcP (rs := frs (lessT row other c)) c_less_times.nd 4 5 (i_zipL rfl B.zip (yv 0) (yv 1)) b_less_times_0 zip_len (fun i d r hd hr' => ?_) ?_) rfl)
  · obtain ⟨x, y, ex, ey, rfl, rfl, em⟩ := zip_frsL (f := fun one two => one - row.getD c 0 * two) hd hr'
    have sx := h1 x (List.mem_of_getElem? ex)
    have sy := h2 y (List.mem_of_getElem? ey)
    have sr := h3 _ (List.mem_of_getElem? em)
    exact ⟨_, _, rfl, fun s H0 C cl fp => y_cb2 hm hr (by decide) (yv 4) (y_cb2 ht hr (by decide) (yv 3) (yv 5) ⟨_, _, rfl, .inl ⟨sc, sy⟩, True.intro, rfl⟩) ⟨_, _, rfl, .inr ⟨sx.md, sc.mul_md sy, sr⟩, True.intro, rfl⟩⟩
  · rw [zipD_len, frs_len, frs_len]; omega
end
end KP
set_option linter.all false
set_option maxRecDepth 100000
set_option maxHeartbeats 4000000
/-! a list that grows in a loop -/
namespace KW
open PySem PySem.Spec PyProof.Rows L2
section
variable {X : Cx} {δ δ' : DE} {e c iter tg : Expr} {px p1 p2 p3 p4 p5 p6 p7 p8 p9 tpos : Pos} {ds : List PyData} {kk : Nat} {P : Po} {sts : List Stmt}
theorem app_run {σ : L2.St} {H G : Hp} {D : Addr} {vs : List V} {E : Ends} {j : Nat} {y : Str} {x : PyData} (he : Ey X e δ (.d x)) (hN : X.N[j]? = some y) (hv : Vis X.env.scope y) (eg : Ex G H) (en : En X.K G σ δ) (hσ : σ[j]? = some (some (.ref D))) (hD : H D = some (.lst vs)) (hl : vs.length ≤ 10000)
    (q : ∀ (u : V) (H2 G2 : Hp), Vx H G H2 G2 → Rp X.K G2 u x → H2 D = some (.lst vs) → E.nx σ (upd H2 D (.lst (vs ++ [u]))))
    (hs : swapsWith (.Call (.Attribute (.Name y p2) "append" p3) [e] [] p4) none p5.line X.env = pure false := by rfl) (hd : (y == ("__debug__" : Str)) = false := by decide) (hcd : (y == ("__classdict__" : Str)) = false := by decide)
    (hbase : attributeBase (.Name y p2) "append" X.env (eval (.Name y p2) X.env) = eval (.Name y p2) X.env := by rfl)
    (hfew : ((backTo p4 (starEach [e] X.env)).all (fun x => !x.1) && (backToKw p4 (keywordEach [] X.env)).all (fun x => x.1.isSome) && decide (([e] : List Expr).length + ([] : List Keyword).length + (if ([] : List Keyword).isEmpty then 0 else 1) < 30)) = true := by rfl)
    (hline : (p3.endLine == p4.line) = true := by rfl) (hst : starEach [e] X.env = (false, eval e X.env) :: starEach [] X.env := by rfl) :
    tWS X (.Expr (.Call (.Attribute (.Name y p2) "append" p3) [e] [] p4) p5) E σ H :=
  leS (ps_expr (pe_bm PySem.F.plainAttrs_list PySem.F.slot_list_append PySem.F.type_list_append mt_append (pe_var hN hv hd hcd) (pa_cons peW pa_nil hst) hbase hfew hline hst rfl) hs) ⟨.ref D, hσ, .inl ⟨rfl, _, .inl (.inl hD)⟩, he σ H G _ eg en fun u H2 G2 v2 o2 => ⟨D, vs, u, rfl, rfl, v2.hh _ _ hD, Nat.lt_of_le_of_lt hl (by decide), q u H2 G2 v2 o2 (v2.hh _ _ hD)⟩⟩
/-- y = []; for a, b in ..: if c: y.append(e) -/
theorem s_found {j j1 j2 : Nat} {y x1 x2 : Str} (os : List (Option PyData)) (hp : PassesOwn (model X.prog X.w) X.A X.env X.xe) (hc : X.calm = true) (hN : X.N.Nodup) (hj : X.N[j]? = some y) (hj1 : X.N[j1]? = some x1) (hj2 : X.N[j2]? = some x2) (hy : Loc X.env.scope y) (hx1 : Loc X.env.scope x1) (hx2 : Loc X.env.scope x2) (n1 : j ≠ j1) (n2 : j ≠ j2) (n3 : j1 ≠ j2)
    (hf : X.fn y = true) (hf1 : X.fn x1 = true) (hf2 : X.fn x2 = true) (hv : Vis X.env.scope y)
    (hi : Iy X (.Tuple [.Name x1 p1, .Name x2 p2] kk tpos) iter (δ.set j none) ds) (hlen : os.length = ds.length) (hz : ds.length ≤ 10000) (hjl : j < δ.length)
    (ht : ∀ (i : Nat) (d : PyData) (o : Option PyData), ds[i]? = some d → os[i]? = some o → ∃ d1 d2, d = .tuple [d1, d2] ∧ Ty X c (((δ.set j none).set j1 (some (.d d1))).set j2 (some (.d d2))) o.isSome ∧ ∀ r, o = some r → Ey X e (((δ.set j none).set j1 (some (.d d1))).set j2 (some (.d d2))) (.d r))
    (hr : ∀ o1 o2, Sy X sts ((((δ.set j none).set j1 o1).set j2 o2).set j (some (.d (.list (os.filterMap id))))) P)
    (hs1 : swapsWith (.List [] p3) (some (.Name y p4)) p5.line X.env = pure false := by rfl) (hfs : ∀ x, foldedSetIterable iter X.env x = pure x := by intro _; rfl)
    (hn : (assignEach [.Name x1 p1, .Name x2 p2] X.env).length = 2 := by rfl) (hst : (assignEach [.Name x1 p1, .Name x2 p2] X.env).findIdx? (·.1) = none := by rfl)
    (ha1 : (assignEach [.Name x1 p1, .Name x2 p2] X.env).map (·.2) = assign (.Name x1 p1) X.env :: (assignEach [.Name x2 p2] X.env).map (·.2) := by rfl) (ha2 : (assignEach [.Name x2 p2] X.env).map (·.2) = assign (.Name x2 p2) X.env :: (assignEach [] X.env).map (·.2) := by rfl)
    {q2 q3 q4 q5 q6 q7 : Pos} (hs : swapsWith (.Call (.Attribute (.Name y q2) "append" q3) [e] [] q4) none q5.line X.env = pure false := by rfl) (hd : (y == ("__debug__" : Str)) = false := by decide) (hcd : (y == ("__classdict__" : Str)) = false := by decide)
    (hbase : attributeBase (.Name y q2) "append" X.env (eval (.Name y q2) X.env) = eval (.Name y q2) X.env := by rfl)
    (hfew : ((backTo q4 (starEach [e] X.env)).all (fun x => !x.1) && (backToKw q4 (keywordEach [] X.env)).all (fun x => x.1.isSome) && decide (([e] : List Expr).length + ([] : List Keyword).length + (if ([] : List Keyword).isEmpty then 0 else 1) < 30)) = true := by rfl)
    (hline : (q3.endLine == q4.line) = true := by rfl) (hse : starEach [e] X.env = (false, eval e X.env) :: starEach [] X.env := by rfl) :
    Sy X (.Assign [.Name y p4] (.List [] p3) p5 :: .For (.Tuple [.Name x1 p1, .Name x2 p2] kk tpos) iter [.If c [.Expr (.Call (.Attribute (.Name y q2) "append" q3) [e] [] q4) q5] [] q6] [] q7 :: sts) δ P := fun σ H G E eg en mt => by
  obtain ⟨wi, hwi, hw⟩ := hi
  refine leSs (pss_cons (ps_set hN hj hy (pe_lst pa_nil) hs1 (.inl hf)) (pss_cons (ps_for hp hc hwi (pg_tup hc (pgs_cons (pg_name hN hj1 hx1 (.inl hf1)) (pgs_cons (pg_name hN hj2 hx2 (.inl hf2)) pgs_nil ha2) ha1) hn hst) (pss_one (ps_if ptW (pss_one psW) pss_nil)) hfs) pssW)) ⟨Nat.zero_le _, fun D hD => ?_⟩
  have hgD : G D = none := eg.back hD
  have vD : Vx H G (upd H D (.lst [])) G := Vx.mut eg hD
  have jl : j < σ.length := by rw [en.len]; exact hjl
  have en0 : En X.K G (σ.set j (some (.ref D))) (δ.set j none) := en.forget j (some (.ref D))
  refine hw (σ.set j (some (.ref D))) (upd H D (.lst [])) G _ vD.gh en0 fun J H1 G1 v1 ok => ?_
  have vD1 := vD.trans v1
  have hD1 : H1 D = some (.lst []) := v1.hh _ _ upd_same
  have gD1 : G1 D = none := v1.nw D _ upd_same hgD
  -- the word
  refine ⟨fun i m σ' H' => m = ds.length - i ∧ i ≤ ds.length ∧ ∃ G' vs o1 o2, Vx H G (upd H' D (.lst [])) G' ∧ Ex G' H' ∧ Ex G1 G' ∧ H' D = some (.lst vs) ∧ G' D = none ∧ vs.length ≤ i ∧ RpAll X.K G' vs ((os.take i).filterMap id) ∧ En X.K G' σ' (((δ.set j none).set j1 o1).set j2 o2) ∧ σ'[j]? = some (some (.ref D)),
    ⟨ds.length, by omega, Nat.zero_le _, G1, [], (δ.set j none)[j1]?.getD none, ((δ.set j none).set j1 ((δ.set j none)[j1]?.getD none))[j2]?.getD none, ?_, v1.gh, Ex.refl G1, hD1, gD1, Nat.le_refl _, by simpa using RpAll.nil, ?_, ?_⟩, ?_⟩
  · refine ⟨fun a o h => ?_, vD1.gg, fun a o h => ?_, vD1.nw⟩
    · rw [upd_ne (ne_of_none h hD)]; exact vD1.hh a o h
    · rw [upd_ne (ne_of_none h gD1)]; exact v1.gh a o h
  · have same : ∀ (l : DE) (k : Nat), l.set k (l[k]?.getD none) = l := fun l k => by
      apply List.ext_getElem?
      intro i
      by_cases z : k = i
      · subst z
        by_cases hk : k < l.length
        · rw [List.getElem?_set_self hk, List.getElem?_eq_getElem hk]; rfl
        · rw [List.getElem?_eq_none (by rw [List.length_set]; omega), List.getElem?_eq_none (by omega)]
      · rw [List.getElem?_set_ne z]
    rw [same, same]
    exact en0.mono v1.gg
  · exact List.getElem?_set_self jl
  · rintro i m σ' H' ⟨rfl, hi, G', vs, o1, o2, vx, eG, eG1, hDl, nD, lv, rA, en', hσ⟩
    by_cases hlt : i < ds.length
    · have hio : i < os.length := by omega
      refine .inr ⟨ok.go i _ H' G' eG1 eG (List.getElem?_eq_getElem hlt), fun σ2 H2 => i + 1 ≤ ds.length ∧ ∃ G' vs o1 o2, Vx H G (upd H2 D (.lst [])) G' ∧ Ex G' H2 ∧ Ex G1 G' ∧ H2 D = some (.lst vs) ∧ G' D = none ∧ vs.length ≤ i + 1 ∧ RpAll X.K G' vs ((os.take (i + 1)).filterMap id) ∧ En X.K G' σ2 (((δ.set j none).set j1 o1).set j2 o2) ∧ σ2[j]? = some (some (.ref D)), fun σ2 H2 ⟨l, h⟩ => ⟨ds.length - (i + 1), by omega, rfl, l, h⟩, fun x H2 yl => ?_⟩
      obtain ⟨G2, v2, r2⟩ := ok.yld i _ H' G' x H2 eG1 eG (List.getElem?_eq_getElem hlt) yl
      obtain ⟨d1, d2, ed, t1, t2⟩ := ht i _ _ (List.getElem?_eq_getElem hlt) (List.getElem?_eq_getElem hio)
      rw [ed] at r2
      cases r2 with
      | tup htt r =>
        cases r with
        | cons r1 r =>
          cases r with
          | cons r2 r =>
            cases r
            have e2 := ((en'.mono v2.gg).set (c := .d d1) j1 r1).set (c := .d d2) j2 r2
            have eδ : ((((δ.set j none).set j1 o1).set j2 o2).set j1 (some (.d d1))).set j2 (some (.d d2)) = ((δ.set j none).set j1 (some (.d d1))).set j2 (some (.d d2)) := by
              rw [List.set_comm _ _ (Ne.symm n3), List.set_set, List.set_set]
            rw [eδ] at e2
            refine ⟨_, _, rfl, ex_t v2.gh htt, rfl, _, _, rfl, _, _, rfl, rfl, t1 _ H2 G2 _ v2.gh e2 fun H3 G3 v3 => ?_⟩
            have v23 := v2.trans v3
            have hD3 : H3 D = some (.lst vs) := v23.hh _ _ hDl
            have gD3 : G3 D = none := v23.nw D _ hDl nD
            have tk : os.take (i + 1) = os.take i ++ [os[i]] := by rw [List.take_append_getElem hio]
            have hσ2 : ∀ a b, ((σ'.set j1 a).set j2 b)[j]? = some (some (.ref D)) := fun a b => by
              rw [List.getElem?_set_ne (Ne.symm n2), List.getElem?_set_ne (Ne.symm n1)]
              exact hσ
            have vxx : ∀ {H4 G4 : Hp}, Vx H3 G3 H4 G4 → Vx H G (upd H4 D (.lst [])) G4 := fun {H4 G4} v4 => by
              have w := v23.trans v4
              refine ⟨fun a o h => ?_, vx.gg.trans w.gg, fun a o h => ?_, fun a o h n => ?_⟩
              · rw [upd_ne (ne_of_none h hD)]
                have := vx.hh a o h
                rw [upd_ne (ne_of_none h hD)] at this
                exact w.hh a o this
              · have gD4 := w.nw D _ hDl nD
                rw [upd_ne (ne_of_none h gD4)]
                exact w.gh a o h
              · have := vx.hh a o h
                rw [upd_ne (ne_of_none h hD)] at this
                exact w.nw a o this (vx.nw a o h n)
            cases ho : os[i] with
            | none =>
              show (if false = true then _ else _)
              rw [if_neg Bool.false_ne_true]
              refine ⟨by omega, G3, vs, some (.d d1), some (.d d2), vxx (Vx.refl v3.gh), v3.gh, eG1.trans v23.gg, hD3, gD3, by omega, ?_, e2.mono v3.gg, hσ2 _ _⟩
              rw [tk, ho, List.filterMap_append]
              simpa using rA.mono v23.gg
            | some z =>
              show (if true = true then _ else _)
              rw [if_pos rfl]
              refine app_run (t2 z ho) hj hv v3.gh (e2.mono v3.gg) (hσ2 _ _) hD3 (by omega) (fun u H4 G4 v4 r4 hD4 => ?_) hs hd hcd hbase hfew hline hse
              have gD4 : G4 D = none := v4.nw D _ hD3 gD3
              refine ⟨by omega, G4, vs ++ [u], some (.d d1), some (.d d2), ?_, ?_, eG1.trans (v23.trans v4).gg, upd_same, gD4, by simp; omega, ?_, (e2.mono v3.gg).mono v4.gg, hσ2 _ _⟩
              · have := vxx v4
                rwa [show upd (upd H4 D (.lst (vs ++ [u]))) D (.lst []) = upd H4 D (.lst []) from upd_upd] 
              · intro a o h
                rw [upd_ne (ne_of_none h gD4)]
                exact v4.gh a o h
              · rw [tk, ho, List.filterMap_append]
                exact (rA.mono (v23.trans v4).gg).append (.cons r4 .nil)
    · have e : i = ds.length := by omega
      subst e
      refine .inl ⟨ok.stop _ H' G' eG1 eG (Nat.le_refl _), ?_⟩
      rw [← hlen, List.take_length] at rA
      have e3 : Ex G' (upd G' D (.lst vs)) := Ex.new nD
      have vF : Vx H G H' (upd G' D (.lst vs)) := by
        refine ⟨fun a o h => ?_, vx.gg.trans e3, fun a o h => ?_, fun a o h n => ?_⟩
        · have := vx.hh a o h
          rwa [upd_ne (ne_of_none h hD)] at this
        · by_cases z : a = D
          · subst z; rw [upd_same] at h; rw [hDl]; exact h
          · rw [upd_ne z] at h; exact eG a o h
        · rw [upd_ne (ne_of_none h hD)]
          exact vx.nw a o h n
      have enF : En X.K (upd G' D (.lst vs)) σ' ((((δ.set j none).set j1 o1).set j2 o2).set j (some (.d (.list (os.filterMap id))))) := by
        have h1 := (en'.mono e3).set (v := .ref D) (c := .d (.list (os.filterMap id))) j (Rp.lst upd_same (rA.mono e3))
        have h2 : σ'.set j (some (.ref D)) = σ' := by
          apply List.ext_getElem?
          intro k
          by_cases z : j = k
          · subst z
            rw [List.getElem?_set_self (List.getElem?_eq_some_iff.mp hσ).1, hσ]
          · rw [List.getElem?_set_ne z]
        rwa [h2] at h1
      exact hr o1 o2 σ' H' _ E vF.gh enF (mt.mono vF)
/-- y = [..] -/
theorem s_lcN (hN : X.N.Nodup) (i j : Nat) {x y : Str} {elt : Expr} {scope : Scope} {pos px spos py : Pos} {rs : List PyData} (hi : Iy X (.Name x px) iter δ ds) (ok : BlkOk X.N X.env.scope scope [(x, j)]) (hlen : rs.length = ds.length) (h : ∀ (i : Nat) (d r : PyData), ds[i]? = some d → rs[i]? = some r → ∀ s H0 C cl fp, Ey (BX X scope s H0 C cl fp) elt (δ.set j (some (.d d))) (.d r))
    (hz : ds.length ≤ 10000) (q : P.nx (δ.set i (some (.d (.list rs))))) (hl : Loc (relabel scope X.env) x := by exact .inl rfl) (hf : (relabel scope X.env).names.lookup x = some .local := by rfl) (hc : X.calm = true := by rfl) (hj : X.N[j]? = some x := by rfl) (hy : X.N[i]? = some y := by rfl) (hyl : X.env.scope.names.lookup y = some .local := by rfl) (hjl : j < δ.length := by exact Nat.le_of_ble_eq_true rfl)
    (hsw : swapsWith (.ListComp elt [⟨.Name x px, iter, [], 0⟩] scope pos) (some (.Name y py)) spos.line X.env = pure true := by rfl) (hs : ∀ x, foldedSetIterable iter X.env x = pure x := by intro _; rfl) :
    S1 X (.Assign [.Name y py] (.ListComp elt [⟨.Name x px, iter, [], 0⟩] scope pos) spos) δ P := by
  refine s_lc (gName j) tYes (rs.map some) hc hN hy hyl hsw hi ok (fun s H C cl fp => pg_name hN hj hl (.inr hf)) (fun s H C cl fp => pts_nil) (by rw [List.length_map]; exact hlen) hz (fun i d o e1 e2 => ?_) (by rw [some_map]; exact q) hs
  obtain ⟨r, e3, rfl⟩ := some_at e2
  exact turns_name hjl fun s H0 C cl fp => h i d r e1 e3 s H0 C cl fp
theorem s_lcPT (hN : X.N.Nodup) (i j1 j2 : Nat) {x x2 y : Str} {t elt : Expr} {scope : Scope} {pos spos py : Pos} (os : List (Option PyData)) (hi : Iy X (.Tuple [.Name x p1, .Name x2 p2] kk tpos) iter δ ds) (ok : BlkOk X.N X.env.scope scope [(x, j1), (x2, j2)]) (hlen : os.length = ds.length)
    (h : ∀ (i : Nat) (d : PyData) (o : Option PyData), ds[i]? = some d → os[i]? = some o → ∃ d1 d2, d = .tuple [d1, d2] ∧ (∀ s H0 C cl fp, Ty (BX X scope s H0 C cl fp) t ((δ.set j1 (some (.d d1))).set j2 (some (.d d2))) o.isSome) ∧ ∀ r, o = some r → ∀ s H0 C cl fp, Ey (BX X scope s H0 C cl fp) elt ((δ.set j1 (some (.d d1))).set j2 (some (.d d2))) (.d r))
    (hz : ds.length ≤ 10000) (q : P.nx (δ.set i (some (.d (.list (os.filterMap id)))))) (hl1 : Loc (relabel scope X.env) x := by exact .inl rfl) (hl2 : Loc (relabel scope X.env) x2 := by exact .inl rfl) (hf1 : (relabel scope X.env).names.lookup x = some .local := by rfl) (hf2 : (relabel scope X.env).names.lookup x2 = some .local := by rfl) (hc : X.calm = true := by rfl) (hj1 : X.N[j1]? = some x := by rfl) (hj2 : X.N[j2]? = some x2 := by rfl) (hne : j1 ≠ j2 := by decide) (hy : X.N[i]? = some y := by rfl) (hyl : X.env.scope.names.lookup y = some .local := by rfl)
    (hsw : swapsWith (.ListComp elt [⟨.Tuple [.Name x p1, .Name x2 p2] kk tpos, iter, [t], 0⟩] scope pos) (some (.Name y py)) spos.line X.env = pure true := by rfl) (hs : ∀ x, foldedSetIterable iter X.env x = pure x := by intro _; rfl) :
    S1 X (.Assign [.Name y py] (.ListComp elt [⟨.Tuple [.Name x p1, .Name x2 p2] kk tpos, iter, [t], 0⟩] scope pos) spos) δ P :=
  s_lc (gTup X.K 2 (gCons (gName j1) (gCons (gName j2) gNil))) (tBT X scope t) os hc hN hy hyl hsw hi ok (fun s H C cl fp => pg_tup hc (pgs_cons (pg_name hN hj1 hl1 (.inr hf1)) (pgs_cons (pg_name hN hj2 hl2 (.inr hf2)) pgs_nil)) rfl rfl) (fun s H C cl fp => pts_one ⟨fun pins s2 σ H2 Q I h => h s H C cl fp pins s2 I⟩) hlen hz (fun i d o e1 e2 => by
    obtain ⟨d1, d2, rfl, h1, h2⟩ := h i d o e1 e2
    exact turns_pair hne (fun σ H G Q eg en q => fun s H0 C cl fp => h1 s H0 C cl fp σ H G Q eg en q) fun y e s H0 C cl fp => h2 y e s H0 C cl fp) q hs
end
end KW
set_option linter.all false
set_option maxRecDepth 100000
set_option maxHeartbeats 4000000
/-! Corner: entering, leaving, columns -/
namespace KP
open PySem PySem.Spec PyProof.Rows L2 KW K68
section
variable {P : Program} {w : World} {K : PySem.W.Frag} {mg : Str → Option Value} {base : Heap}
/-- the class -/
structure Cor (K : PySem.W.Frag) (C : Addr) : Prop where
  cls : Cls K C
  rows : NoAttr K C "rows"
  last : NoAttr K C "last"
  base : NoAttr K C "base"
  makes : PySem.W.makesIn K C = true
  kp : PySem.W.keepIn K (.ref C) = true
structure HasM (K : PySem.W.Frag) (C : Addr) (m qual : Str) (st : Stmt) (ps : List Str) : Prop where
  ex : ∃ (f : Addr) (fd : FuncData), Meth K C m f ∧ Fun K m qual st f fd ∧ Binds K fd ps []
structure Mb (P : Program) (w : World) (K : PySem.W.Frag) (mg : Str → Option Value) (base : Heap) (k : Nat) (C : Addr) (m : Str) (R : List Cl → PyData → Prop) : Prop where
  ex : ∃ (f : Addr) (fd : FuncData) (ps : List Str), FnOk P w K mg base CX0 k f fd ps (spR K R) ∧ Meth K C m f ∧ Binds K fd ps []
abbrev bM (P : Program) (w : World) (K : PySem.W.Frag) (mg : Str → Option Value) (base : Heap) (N : List Str) (qual : Str) (st : Stmt) (f : Addr) (cdv : Value) (A : Around) (outer : List Env) (s : Shared) (H : Hp) (E : XK) : Cx := bX P w K mg base N qual st f cdv A outer s H E
theorem Mb.of {R : List Cl → PyData → Prop} {C : Addr} {m qual : Str} {st : Stmt} {N ps : List Str} {k : Nat} (h : HasM K C m qual st ps) (S : FnScope N ps (defScope st)) (hlen : ∀ cs d, R cs d → cs.length = ps.length)
    (hbody : ∀ (f : Addr) (cdv : Value) (A : Around) (outer : List Env) (s : Shared) (H : Hp) (E : XK), Room k (bX P w K mg base N qual st f cdv A outer s H E).A → ∀ cs d, R cs d → Sy (bX P w K mg base N qual st f cdv A outer s H E) (defBody st) (stD N cs) { nx := fun _ => d = .none, rt := fun c => c = .d d }) :
    Mb P w K mg base (k + 1) C m R := by
  obtain ⟨f, fd, hm, F, hb⟩ := h.ex
  exact ⟨f, fd, ps, pure_ok F S hlen (hbody f), hm, hb⟩
def lrowD (r : List Rat) : PyData := .list (frs r)
def intsD (b : List Nat) : List PyData := b.map fun x => .int (x : Nat)
def corF (RR : List (List Rat)) (last : List Rat) (bs : List Nat) : List (Str × PyData) := [("rows", .list (RR.map lrowD)), ("last", .list (frs last)), ("base", .list (intsD bs))]
abbrev corC (C : Addr) (RR : List (List Rat)) (last : List Rat) (bs : List Nat) : Cl := .i C (corF RR last bs)
theorem y_neg {X : Cx} {δ : DE} {e : Expr} {i : Int} {pos : Pos} (h : Ey X e δ (.d (.int i))) : Ey X (.UnaryOp .USub e pos) δ (.d (.int (-i))) := fun σ H G Q eg en q =>
  leE (pe_un un_neg peW) (h σ H G _ eg en fun v H1 G1 v1 o1 => by
    have o1' : Rp X.K G1 v (.int i) := o1
    cases o1'
    exact ⟨i, rfl, q _ H1 G1 v1 (Rp.int _)⟩)
theorem cut_init (l : List Rat) : KW.cutD (frs l) none (some (-1)) = frs l.dropLast := by
  unfold KW.cutD
  rw [HT.sIx_none, frs_len]
  show (List.take ((if (-1 : Int) < 0 then ((-1 : Int) + (l.length : Int)).toNat else min (-1 : Int).toNat l.length) - 0) (frs l)) = _
  rw [if_pos (by decide), List.dropLast_eq_take, show ((-1 : Int) + (l.length : Int)).toNat - 0 = l.length - 1 by omega]
  unfold frs
  rw [List.map_take]
/-- where the last row is below nothing -/
def entO (l : List Rat) : List (Option Nat) := l.zipIdx.map fun p => if p.1 < 0 then some p.2 else none
def entL (l : List Rat) : List Nat := (entO l).filterMap id
def entF (l : List Rat) : Option Nat := (entL l.dropLast).head?
def entD : Option Nat → PyData
  | some i => .int (i : Nat)
  | none => .none
theorem entO_at {l : List Rat} {i : Nat} {q : Rat} (h : l[i]? = some q) : (entO l)[i]? = some (if q < 0 then some i else none) := by
  unfold entO
  rw [List.getElem?_map, List.getElem?_zipIdx, h]
  simp
def iO (o : Option Nat) : Option PyData := o.map fun i => .int (i : Nat)
theorem iO_map (os : List (Option Nat)) : (os.map iO).filterMap id = intsD (os.filterMap id) := by
  induction os with
  | nil => rfl
  | cons o os ih =>
    cases o with
    | none => simpa [iO] using ih
    | some i =>
      simp only [List.map_cons, iO, Option.map_some]
      rw [List.filterMap_cons_some (by rfl), List.filterMap_cons_some (by rfl)]
      rw [ih]
      rfl
theorem shp_ints (b : List Nat) : SeqAt.shaped (.list (intsD b)) = true := by
  have h1 : PyData.canLayAll0 (intsD b) = true := by
    induction b with
    | nil => rfl
    | cons x b ih => simp [intsD, PyData.canLayAll0, PyData.canLay0] at ih ⊢; exact ih
  have h2 : PyData.depthAll (intsD b) ≤ 1 := by
    clear h1
    induction b with
    | nil => simp [intsD, PyData.depthAll]
    | cons x b ih => simp [intsD, PyData.depthAll, PyData.depth] at ih ⊢; omega
  simp [SeqAt.shaped, PyData.canLay0, h1, PyData.depth]
  omega
def R_ent (C : Addr) (cs : List Cl) (d : PyData) : Prop := ∃ (RR : List (List Rat)) (last : List Rat) (bs : List Nat), cs = [corC C RR last bs] ∧ last.length ≤ 1000 ∧ (∀ q ∈ last, Sm q) ∧ d = entD (entF last)
theorem ok_ent (B : Bl mg) {C : Addr} (hC : Cor K C) (h : HasM K C "entering" "Corner.entering" s_Corner_entering ["self"]) (hn : GC K mg "NOTHING" (frD 0)) (hl : Cb P w K mg base 1 "is_less" R_less) : Mb P w K mg base 2 C "entering" (R_ent C) := by
  refine Mb.of (k := 1) h c_Corner_entering (fun cs d h => by obtain ⟨_, _, _, rfl, _⟩ := h; rfl) fun f cdv A outer s H E hr cs d h => ?_
  obtain ⟨RR, last, bs, rfl, hz, hs, rfl⟩ := h
  have isS : ∀ (q : Rat) (i : Nat), (iO (if q < 0 then some i else none)).isSome = decide (q < 0) := fun q i => by
    by_cases h : q < 0
    · rw [if_pos h, decide_eq_true h]; rfl
    · rw [if_neg h, decide_eq_false h]; rfl
  refine s_cons (s_lcPT c_Corner_entering.nd 1 2 3 ((entO last.dropLast).map iO) (i_enumL (ds := frs last.dropLast) rfl B.enumerate (y_conv (y_cutL (ds := frs last) (y_fld (yv 0) hC.cls hC.last rfl) p_none (p_some (y_neg y_int))) (congrArg PyData.list (cut_init last)))) b_Corner_entering_0 ?_ (fun i d o hd ho => ?_) ?_ ?_)
  · rw [List.length_map, enumD_len, frs_len]
    unfold entO
    rw [List.length_map, List.length_zipIdx]
  · obtain ⟨e, he, rfl⟩ := enumD_at hd
    obtain ⟨q, hq, rfl⟩ := frs_at he
    rw [List.getElem?_map, entO_at hq] at ho
    cases ho
    have sq : Sm q := hs q ((List.dropLast_sublist _).mem (List.mem_of_getElem? hq))
    refine ⟨_, _, rfl, fun s H0 C cl fp => ?_, fun r hr' s H0 C cl fp => ?_⟩
    · rw [isS]
      exact t_val (y_cb2 hl hr (Nat.le_refl _) (yv 3) (y_gc hn) ⟨q, 0, rfl, sq.md, sm0.md, rfl⟩)
    · by_cases hq0 : q < 0
      · rw [if_pos hq0] at hr'
        cases hr'
        exact yv 2
      · rw [if_neg hq0] at hr'
        cases hr'
  · rw [enumD_len, frs_len, List.length_dropLast]; omega
  rw [iO_map]
  have en := shp_ints (entL last.dropLast)
  refine s_one (s_ret (c := .d (entD (entF last))) (y_if (t_cmp (o_neD (d := .list (intsD (entL last.dropLast))) (e := .list []) hr.units en rfl) (yv 1) (y_lst (ds := []) a_nil (by decide)) rfl) (fun hk => ?_) (fun hk => ?_)) rfl)
  · unfold entF
    cases hL : entL last.dropLast with
    | nil => rw [hL] at hk; simp [intsD, PyData.eqv, PyData.eqvAll] at hk
    | cons x xs =>
      refine y_ix (x_lst (ds := intsD (x :: xs)) (d := .int (x : Nat)) (atI_nat (j := 0) rfl)) (yv 1 (c := .d (.list (intsD (x :: xs)))) rfl (.inl rfl) ?_) y_int
      show some (some (Cl.d (.list (intsD (entL last.dropLast))))) = _
      rw [hL]
  · unfold entF
    cases hL : entL last.dropLast with
    | nil => exact y_non
    | cons x xs => rw [hL] at hk; simp [intsD, PyData.eqv, PyData.eqvAll] at hk
end
end KP
set_option linter.all false
set_option maxRecDepth 100000
set_option maxHeartbeats 4000000
/-! Corner: leaving, columns -/
namespace KP
open PySem PySem.Spec PyProof.Rows L2 KW K68
section
variable {P : Program} {w : World} {K : PySem.W.Frag} {mg : Str → Option Value} {base : Heap}
def lastQ (r : List Rat) : Rat := r.getLast?.getD 0
/-- the rows that may leave: ratio, base, place -/
abbrev Lv := Rat × Nat × Nat
def lvO (RR : List (List Rat)) (bs : List Nat) (c : Nat) : List (Option Lv) := RR.zipIdx.map fun p => if 0 < p.1.getD c 0 then some (lastQ p.1 / p.1.getD c 0, bs.getD p.2 0, p.2) else none
def lvL (RR : List (List Rat)) (bs : List Nat) (c : Nat) : List Lv := (lvO RR bs c).filterMap id
def lvD (t : Lv) : PyData := .tuple [frD t.1, .int (t.2.1 : Nat), .int (t.2.2 : Nat)]
def lvLow (L : List Lv) : Rat := leastQ (L.map (·.1))
def lvCand (L : List Lv) : List (Int × Int) := (L.filter fun t => decide (t.1 = lvLow L)).map fun t => ((t.2.1 : Int), (t.2.2 : Int))
def leaveF (RR : List (List Rat)) (bs : List Nat) (c : Nat) : Int := match lvCand (lvL RR bs c) with
  | [] => 0
  | p :: ps => (minP p ps).2
theorem last_at {r : List Rat} (h : r ≠ []) : atI (frs r) (-1) = some (frD (lastQ r)) := by
  have e : r = r.dropLast ++ [lastQ r] := by
    unfold lastQ
    rw [List.getLast?_eq_some_getLast h]
    exact (List.dropLast_concat_getLast h).symm
  rw [e]
  unfold frs
  rw [List.map_append, List.map_cons, List.map_nil]
  have := atI_last (r.dropLast.map frD) (frD (lastQ r))
  rw [← e]
  exact this
theorem lvO_at {RR : List (List Rat)} {bs : List Nat} {c i : Nat} {r : List Rat} (h : RR[i]? = some r) : (lvO RR bs c)[i]? = some (if 0 < r.getD c 0 then some (lastQ r / r.getD c 0, bs.getD i 0, i) else none) := by
  unfold lvO
  rw [List.getElem?_map, List.getElem?_zipIdx, h]
  simp
theorem optMap {α : Type} (f : α → PyData) (os : List (Option α)) : (os.map fun o => o.map f).filterMap id = (os.filterMap id).map f := by
  induction os with
  | nil => rfl
  | cons o os ih =>
    cases o with
    | none => simpa using ih
    | some i =>
      simp only [List.map_cons, Option.map_some]
      rw [List.filterMap_cons_some (by rfl), List.filterMap_cons_some (by rfl), ih]
      rfl
theorem rowL_at {RR : List (List Rat)} {i : Nat} {d : PyData} (h : (RR.map lrowD)[i]? = some d) : ∃ r, RR[i]? = some r ∧ d = lrowD r := by
  rw [List.getElem?_map] at h
  cases e : RR[i]? with
  | none => rw [e] at h; cases h
  | some q => rw [e] at h; cases h; exact ⟨q, rfl, rfl⟩
theorem lvs_at {L : List Lv} {i : Nat} {d : PyData} (h : (L.map lvD)[i]? = some d) : ∃ t, L[i]? = some t ∧ d = lvD t := by
  rw [List.getElem?_map] at h
  cases e : L[i]? with
  | none => rw [e] at h; cases h
  | some q => rw [e] at h; cases h; exact ⟨q, rfl, rfl⟩
theorem eqv_frs (a b : Rat) : PyData.eqv (frD a) (frD b) = decide (a = b) := by
  have e : PyData.eqv (frD a) (frD b) = (decide (a.num = b.num) && decide ((a.den : Int) = (b.den : Int))) := by
    simp [frD, PyData.eqv, PyData.eqvAll]
    rfl
  rw [e]
  by_cases h : a = b
  · subst h; simp
  · rw [decide_eq_false h]
    by_cases h1 : a.num = b.num
    · by_cases h2 : (a.den : Int) = (b.den : Int)
      · exact absurd (Rat.ext h1 (by exact_mod_cast h2)) h
      · rw [decide_eq_false h2, Bool.and_false]
    · rw [decide_eq_false h1, Bool.false_and]
theorem lv_mem {RR : List (List Rat)} {bs : List Nat} {c : Nat} {t : Lv} (h : t ∈ lvL RR bs c) : ∃ r, RR[t.2.2]? = some r ∧ 0 < r.getD c 0 ∧ t.1 = lastQ r / r.getD c 0 ∧ t.2.1 = bs.getD t.2.2 0 := by
  unfold lvL at h
  obtain ⟨o, ho, e⟩ := List.mem_filterMap.mp h
  obtain ⟨i, hi⟩ := List.mem_iff_getElem?.mp ho
  have hl : i < RR.length := by
    have := (List.getElem?_eq_some_iff.mp hi).1
    unfold lvO at this
    rw [List.length_map, List.length_zipIdx] at this
    exact this
  rw [lvO_at (List.getElem?_eq_getElem hl)] at hi
  cases hi
  by_cases hp : 0 < RR[i].getD c 0
  · rw [if_pos hp] at e
    cases e
    exact ⟨RR[i], List.getElem?_eq_getElem hl, hp, rfl, rfl⟩
  · rw [if_neg hp] at e
    cases e
structure LvOk (RR : List (List Rat)) (bs : List Nat) (c : Nat) : Prop where
  len : bs.length = RR.length
  sz : RR.length ≤ 100
  col : ∀ r ∈ RR, c < r.length
  sm : ∀ r ∈ RR, ∀ q ∈ r, Sm q
  some_ : lvL RR bs c ≠ []
def R_lv (C : Addr) (cs : List Cl) (d : PyData) : Prop := ∃ (RR : List (List Rat)) (last : List Rat) (bs : List Nat) (c : Nat), cs = [corC C RR last bs, .d (.int (c : Nat))] ∧ LvOk RR bs c ∧ d = .int (leaveF RR bs c)
theorem least_mem : ∀ {l : List Rat}, l ≠ [] → leastQ l ∈ l
  | [], h => absurd rfl h
  | x :: xs, _ => by
    rcases fold_mem loQ_or xs x with e | e
    · show xs.foldl loQ x ∈ _
      rw [e]; exact List.mem_cons_self
    · exact List.mem_cons_of_mem _ e
theorem ok_lv (B : Bl mg) {C : Addr} (hC : Cor K C) (h : HasM K C "leaving" "Corner.leaving" s_Corner_leaving ["self", "column"]) (hn : GC K mg "NOTHING" (frD 0)) (hl : Cb P w K mg base 1 "is_less" R_less) (hd : Cb P w K mg base 3 "divided" R_divided) (hlo : Cb P w K mg base 2 "least_of" (R_least leastQ)) : Mb P w K mg base 4 C "leaving" (R_lv C) := by
  refine Mb.of (k := 3) h c_Corner_leaving (fun cs d h => by obtain ⟨_, _, _, _, rfl, _⟩ := h; rfl) fun f cdv A outer s H E hr cs d h => ?_
  obtain ⟨RR, last, bs, c, rfl, ok, rfl⟩ := h
  have lvne := ok.some_
  have lvlen : (lvL RR bs c).length ≤ 100 := by
    unfold lvL
    have h1 := List.length_filterMap_le id (lvO RR bs c)
    have h2 : (lvO RR bs c).length = RR.length := by unfold lvO; rw [List.length_map, List.length_zipIdx]
    have := ok.sz
    omega
  refine s_found (X := bX P w K mg base ["self", "column", "found", "place", "row", "least", "one"] "Corner.leaving" s_Corner_leaving f cdv A outer s H E) (j := 2) (j1 := 3) (j2 := 4) ((lvO RR bs c).map fun o => o.map lvD) PassesOwn.never rfl c_Corner_leaving.nd rfl rfl rfl (.inl rfl) (.inl rfl) (.inl rfl) (by decide) (by decide) (by decide) rfl rfl rfl (.inl rfl)
    (i_enumL (ds := RR.map lrowD) rfl B.enumerate (y_fld (yv 0) hC.cls hC.rows rfl)) ?_ ?_ (by exact Nat.le_of_ble_eq_true rfl) (fun i d o hd' ho => ?_) (fun o1 o2 => ?_)
  · rw [List.length_map, enumD_len, List.length_map]
    unfold lvO
    rw [List.length_map, List.length_zipIdx]
  · rw [enumD_len, List.length_map]; have := ok.sz; omega
  · obtain ⟨e, he, rfl⟩ := enumD_at hd'
    obtain ⟨r, hrr, rfl⟩ := rowL_at he
    rw [List.getElem?_map, lvO_at hrr] at ho
    cases ho
    have rm := List.mem_of_getElem? hrr
    have hc := ok.col r rm
    have ec : r[c]? = some (r.getD c 0) := by rw [List.getD_eq_getElem?_getD, List.getElem?_eq_getElem hc]; rfl
    have sc : Sm (r.getD c 0) := ok.sm r rm _ (List.mem_of_getElem? ec)
    have rne : r ≠ [] := fun z => by rw [z] at hc; simp at hc
    have il : i < RR.length := (List.getElem?_eq_some_iff.mp hrr).1
    have eb : (intsD bs)[i]? = some (.int (bs.getD i 0 : Nat)) := by
      unfold intsD
      rw [List.getElem?_map, List.getD_eq_getElem?_getD, List.getElem?_eq_getElem (by rw [ok.len]; exact il)]
      rfl
    have sl : Sm (lastQ r) := by
      refine ok.sm r rm _ ?_
      unfold lastQ
      rw [List.getLast?_eq_some_getLast rne]
      exact List.getLast_mem rne
    refine ⟨_, _, rfl, ?_, fun x hx => ?_⟩
    · have e1 : ((if 0 < r.getD c 0 then some (lastQ r / r.getD c 0, bs.getD i 0, i) else none : Option Lv).map lvD).isSome = decide ((0 : Rat) < r.getD c 0) := by
        by_cases h : 0 < r.getD c 0
        · rw [if_pos h, decide_eq_true h]; rfl
        · rw [if_neg h, decide_eq_false h]; rfl
      rw [e1]
      exact t_val (y_cb2 hl hr (by decide) (y_gc hn) (y_ix (x_lst (ds := frs r) (atI_nat (frs_get ec))) (yv 4) (yv 1)) ⟨0, _, rfl, sm0.md, sc.md, rfl⟩)
    · by_cases hp : 0 < r.getD c 0
      · rw [if_pos hp] at hx
        cases hx
        exact y_tup3 (y_cb2 hd hr (by decide) (y_ix (x_lst (ds := frs r) (last_at rne)) (yv 4) (y_neg y_int)) (y_ix (x_lst (ds := frs r) (atI_nat (frs_get ec))) (yv 4) (yv 1)) ⟨_, _, rfl, .inl ⟨sl, sc⟩, (fun z => by rw [z] at hp; exact absurd hp (by decide)), rfl⟩) (y_ix (x_lst (ds := intsD bs) (atI_nat eb)) (y_fld (yv 0) hC.cls hC.base rfl) (yv 3)) (yv 3)
      · rw [if_neg hp] at hx
        cases hx
  rw [optMap]
  show Sy _ _ [some (corC C RR last bs), some (.d (.int (c : Nat))), some (.d (.list ((lvL RR bs c).map lvD))), o1, o2, none, none] _
  have lowmem : lvLow (lvL RR bs c) ∈ (lvL RR bs c).map (·.1) := least_mem (fun z => lvne (List.map_eq_nil_iff.mp z))
  have candne : lvCand (lvL RR bs c) ≠ [] := fun z => by
    obtain ⟨t, ht, e⟩ := List.mem_map.mp lowmem
    have : t ∈ (lvL RR bs c).filter fun t => decide (t.1 = lvLow (lvL RR bs c)) := List.mem_filter.mpr ⟨ht, decide_eq_true e⟩
    unfold lvCand at z
    rw [List.map_eq_nil_iff.mp z] at this
    simp at this
  refine s_cons (s_set (i := 5) c_Corner_leaving.nd rfl (.inr rfl) (y_cb1 hlo hr (by decide) (y_lcN (rs := frs ((lvL RR bs c).map (·.1))) c_Corner_leaving.nd 6 (i_list (ds := (lvL RR bs c).map lvD) (yv 2)) b_Corner_leaving_0 (by rw [frs_len, List.length_map, List.length_map]) (fun i d r hd' hr' s H0 C' cl fp => ?_) (by rw [List.length_map]; omega)) ⟨_, rfl, (fun z => lvne (List.map_eq_nil_iff.mp z)), (by rw [List.length_map]; omega), (fun q hq => ?_), rfl⟩) ?_)
  · obtain ⟨t, ht, rfl⟩ := lvs_at hd'
    obtain ⟨q, hq, rfl⟩ := frs_at hr'
    rw [List.getElem?_map, ht] at hq
    cases hq
    exact y_ix (x_tup (ds := [frD t.1, .int (t.2.1 : Nat), .int (t.2.2 : Nat)]) (i := 0) rfl) (yv 6) y_int
  · obtain ⟨t, ht, rfl⟩ := List.mem_map.mp hq
    obtain ⟨r, hrr, hp, e1, e2⟩ := lv_mem ht
    have rm := List.mem_of_getElem? hrr
    have hc := ok.col r rm
    have ec : r[c]? = some (r.getD c 0) := by rw [List.getD_eq_getElem?_getD, List.getElem?_eq_getElem hc]; rfl
    have rne : r ≠ [] := fun z => by rw [z] at hc; simp at hc
    rw [e1]
    refine Sm.div_md (ok.sm r rm _ ?_) (ok.sm r rm _ (List.mem_of_getElem? ec)) (fun z => by rw [z] at hp; exact absurd hp (by decide))
    unfold lastQ
    rw [List.getLast?_eq_some_getLast rne]
    exact List.getLast_mem rne
  have candE : leaveF RR bs c = match lvCand (lvL RR bs c) with
    | [] => 0
    | p :: ps => (minP p ps).2 := rfl
  cases hcd : lvCand (lvL RR bs c) with
  | nil => exact absurd hcd candne
  | cons p ps =>
    rw [hcd] at candE
    have fm : ((lvL RR bs c).map fun t => if t.1 = lvLow (lvL RR bs c) then some (KW.pairD ((t.2.1 : Int), (t.2.2 : Int))) else none).filterMap id = (p :: ps).map KW.pairD := by
      rw [← hcd]
      unfold lvCand
      rw [List.map_map]
      generalize lvLow (lvL RR bs c) = low
      induction lvL RR bs c with
      | nil => rfl
      | cons t L ih =>
        rw [List.map_cons]
        by_cases h : t.1 = low
        · rw [if_pos h, List.filterMap_cons_some (by rfl), List.filter_cons_of_pos (by simpa using h), List.map_cons, ih]
          rfl
        · rw [if_neg h, List.filterMap_cons_none (by rfl), List.filter_cons_of_neg (by simpa using h), ih]
    refine s_one (s_ret (y_ix (x_tup (ds := [.int (minP p ps).1, .int (minP p ps).2]) (i := 1) rfl) (y_b1 (c_minP rfl hr.units) B.min (y_conv (y_lcT c_Corner_leaving.nd 6 ((lvL RR bs c).map fun t => if t.1 = lvLow (lvL RR bs c) then some (KW.pairD ((t.2.1 : Int), (t.2.2 : Int))) else none) (i_list (ds := (lvL RR bs c).map lvD) (yv 2)) b_Corner_leaving_1 (by rw [List.length_map, List.length_map]) (fun i d o hd' ho s H0 C' cl fp => ?_) (fun i d r hd' ho s H0 C' cl fp => ?_) (by rw [List.length_map]; omega)) (congrArg PyData.list fm))) y_int) ?_)
    · obtain ⟨t, ht, rfl⟩ := lvs_at hd'
      rw [List.getElem?_map, ht] at ho
      cases ho
      have e1 : (if t.1 = lvLow (lvL RR bs c) then some (KW.pairD ((t.2.1 : Int), (t.2.2 : Int))) else none).isSome = PyData.eqv (frD t.1) (frD (lvLow (lvL RR bs c))) := by
        rw [eqv_frs]
        by_cases h : t.1 = lvLow (lvL RR bs c)
        · rw [if_pos h, decide_eq_true h]; rfl
        · rw [if_neg h, decide_eq_false h]; rfl
      rw [e1]
      exact t_cmp (o_eqD hr.units (shp_fr _) (shp_fr _)) (y_ix (x_tup (ds := [frD t.1, .int (t.2.1 : Nat), .int (t.2.2 : Nat)]) (i := 0) rfl) (yv 6) y_int) (yv 5) rfl
    · obtain ⟨t, ht, rfl⟩ := lvs_at hd'
      rw [List.getElem?_map, ht] at ho
      by_cases h : t.1 = lvLow (lvL RR bs c)
      · rw [Option.map_some, if_pos h] at ho
        cases ho
        exact y_conv (y_cutT (ds := [frD t.1, .int (t.2.1 : Nat), .int (t.2.2 : Nat)]) (yv 6) (p_some y_int) p_none) rfl
      · rw [Option.map_some, if_neg h] at ho
        cases ho
    · show Cl.d (.int _) = _
      rw [candE]
end
end KP
set_option linter.all false
set_option maxRecDepth 100000
set_option maxHeartbeats 4000000
/-! Corner: columns -/
namespace KP
open PySem PySem.Spec PyProof.Rows L2 KW K68
section
variable {P : Program} {w : World} {K : PySem.W.Frag} {mg : Str → Option Value} {base : Heap}
def kvsF (RR : List (List Rat)) (bs : List Nat) : List (Int × PyData) := List.zipWith (fun b r => ((b : Nat), frD (lastQ r))) bs RR
def colsF (RR : List (List Rat)) (bs : List Nat) (c : Nat) : Rat := ((List.zipWith (fun b r => (b, lastQ r)) bs RR).lookup c).getD 0
theorem kvs_lookup (c : Nat) : ∀ (RR : List (List Rat)) (bs : List Nat), ((kvsF RR bs).lookup (c : Int)).getD (frD 0) = frD (colsF RR bs c)
  | [], [] => rfl
  | [], _ :: _ => rfl
  | _ :: _, [] => rfl
  | r :: RR, b :: bs => by
    have ih := kvs_lookup c RR bs
    unfold kvsF colsF at ih ⊢
    rw [List.zipWith_cons_cons, List.zipWith_cons_cons, List.lookup_cons, List.lookup_cons]
    by_cases h : c = b
    · subst h
      simp
    · have h1 : ((c : Int) == (b : Int)) = false := beq_eq_false_iff_ne.mpr (by omega)
      have h2 : (c == b) = false := beq_eq_false_iff_ne.mpr h
      rw [h1, h2]
      exact ih
theorem kvs_nodup : ∀ (RR : List (List Rat)) (bs : List Nat), bs.Nodup → ((kvsF RR bs).map (·.1)).Nodup
  | [], [], _ => List.nodup_nil
  | [], _ :: _, _ => List.nodup_nil
  | _ :: _, [], _ => List.nodup_nil
  | r :: RR, b :: bs, nd => by
    have nd' := List.nodup_cons.mp nd
    unfold kvsF
    rw [List.zipWith_cons_cons, List.map_cons]
    refine List.nodup_cons.mpr ⟨fun m => ?_, kvs_nodup RR bs nd'.2⟩
    obtain ⟨p, hp, e⟩ := List.mem_map.mp m
    obtain ⟨i, hi⟩ := List.mem_iff_getElem?.mp hp
    rw [List.getElem?_zipWith] at hi
    cases hb : bs[i]? with
    | none => rw [hb] at hi; simp at hi
    | some b' =>
      cases hr : RR[i]? with
      | none => rw [hb, hr] at hi; cases hi
      | some r' =>
        rw [hb, hr] at hi
        cases hi
        have e' : (b' : Int) = (b : Int) := e
        have : b' = b := by omega
        subst this
        exact nd'.1 (List.mem_of_getElem? hb)
theorem ints_at {bs : List Nat} {i : Nat} {d : PyData} (h : (intsD bs)[i]? = some d) : ∃ b, bs[i]? = some b ∧ d = .int (b : Nat) := by
  unfold intsD at h
  rw [List.getElem?_map] at h
  cases e : bs[i]? with
  | none => rw [e] at h; cases h
  | some q => rw [e] at h; cases h; exact ⟨q, rfl, rfl⟩
def R_columns (C : Addr) (cs : List Cl) (d : PyData) : Prop := ∃ (RR : List (List Rat)) (last : List Rat) (bs : List Nat) (n : Nat), cs = [corC C RR last bs, .d (.int (n : Nat))] ∧ n ≤ 1000 ∧ RR.length ≤ 1000 ∧ bs.Nodup ∧ (∀ r ∈ RR, r ≠ []) ∧ d = .list (frs ((List.range n).map (colsF RR bs)))
theorem ok_columns (B : Bl mg) {C : Addr} (hC : Cor K C) (h : HasM K C "columns" "Corner.columns" s_Corner_columns ["self", "wide"]) (hn : GC K mg "NOTHING" (frD 0)) : Mb P w K mg base 1 C "columns" (R_columns C) := by
  refine Mb.of (k := 0) h c_Corner_columns (fun cs d h => by obtain ⟨_, _, _, _, rfl, _⟩ := h; rfl) fun f cdv A outer s H E hr cs d h => ?_
  obtain ⟨RR, last, bs, n, rfl, hz, hR, nd, hne, rfl⟩ := h
  refine s_cons (s_set (i := 2) c_Corner_columns.nd rfl (.inr rfl) (y_t1 (c_dict (kvs := kvsF RR bs) rfl (kvs_nodup RR bs nd)) B.dict (y_lcP (rs := (kvsF RR bs).map kvD) c_Corner_columns.nd 4 5 (i_zipL (ds := intsD bs) (es := RR.map lrowD) rfl B.zip (y_fld (yv 0) hC.cls hC.base rfl) (y_fld (yv 0) hC.cls hC.rows rfl)) b_Corner_columns_0 ?_ (fun i d r hd hr' => ?_) ?_)) ?_)
  · unfold kvsF intsD
    rw [List.length_map, List.length_zipWith, zipD_len, List.length_map, List.length_map]
  · obtain ⟨a, b, ha, hb, rfl⟩ := zipD_at hd
    obtain ⟨x, ex, rfl⟩ := ints_at ha
    obtain ⟨row, er, rfl⟩ := rowL_at hb
    rw [List.getElem?_map] at hr'
    unfold kvsF at hr'
    rw [List.getElem?_zipWith, ex, er] at hr'
    cases hr'
    exact ⟨_, _, rfl, fun s H0 C' cl fp => y_tup2 (yv 4) (y_ix (x_lst (ds := frs row) (last_at (hne row (List.mem_of_getElem? er)))) (yv 5) (y_neg y_int))⟩
  · rw [zipD_len, List.length_map]; omega
  refine s_one (s_ret (y_lcN (rs := frs ((List.range n).map (colsF RR bs))) c_Corner_columns.nd 3 (i_range (n := (n : Nat)) rfl B.range (yv 1) (by omega)) b_Corner_columns_1 ?_ (fun i d r hd hr' s H0 C' cl fp => ?_) ?_) rfl)
  · rw [frs_len, rangeD_len, List.length_map, List.length_range]
    omega
  · obtain ⟨hi, rfl⟩ := rangeD_at hd
    obtain ⟨q, hq, rfl⟩ := frs_at hr'
    rw [List.getElem?_map, List.getElem?_range (by omega)] at hq
    cases hq
    rw [← kvs_lookup]
    have ei : (0 : Int) + (i : Int) = (i : Int) := by omega
    rw [ei]
    exact y_get (hu_of hr) (yv 2) (yv 3) (y_gc hn) ⟨rfl, rfl, rfl, rfl⟩
  · rw [rangeD_len]; omega
end
end KP
set_option linter.all false
set_option maxRecDepth 100000
set_option maxHeartbeats 4000000
/-! a corner that changes: what stays, what its parts are -/
namespace KP
open PySem PySem.Spec PyProof.Rows L2 KW K68
structure Tb where
  RR : List (List Rat)
  last : List Rat
  bs : List Nat
abbrev tC (C : Addr) (t : Tb) : Cl := corC C t.RR t.last t.bs
/-- the three parts that change -/
structure Pl where
  a : Addr
  dx : Addr
  r : Addr
  b : Addr
def Pl.on (p : Pl) (x : Addr) : Prop := x = p.a ∨ x = p.r ∨ x = p.b
instance (p : Pl) (x : Addr) : Decidable (p.on x) := by unfold Pl.on; infer_instance
structure CorM (K : PySem.W.Frag) (C : Addr) (p : Pl) (H G : Hp) (t : Tb) : Prop where
  ex : ∃ (rvs : List V) (lv : V), H p.a = some (.ins C p.dx [("rows", .ref p.r), ("last", lv), ("base", .ref p.b)]) ∧ H p.r = some (.lst rvs) ∧ RpAll K G rvs (t.RR.map lrowD) ∧ Rp K G lv (.list (frs t.last))
  hb : H p.b = some (.lst (t.bs.map fun x => V.int (x : Nat)))
  no : ∀ x, p.on x → G x = none
  ar : p.a ≠ p.r
  ab : p.a ≠ p.b
  rb : p.r ≠ p.b
/-- what stays but for the three -/
structure Vs (p : Pl) (H G H2 G2 : Hp) : Prop where
  hh : ∀ x o, ¬ p.on x → H x = some o → H2 x = some o
  gg : Ex G G2
  gh : Ex G2 H2
  nw : ∀ x o, ¬ p.on x → H x = some o → G x = none → G2 x = none
theorem Vs.of {p : Pl} {H G H2 G2 : Hp} (v : Vx H G H2 G2) : Vs p H G H2 G2 := ⟨fun x o _ h => v.hh x o h, v.gg, v.gh, fun x o _ h n => v.nw x o h n⟩
theorem Vs.trans {p : Pl} {H G H1 G1 H2 G2 : Hp} (a : Vs p H G H1 G1) (b : Vs p H1 G1 H2 G2) : Vs p H G H2 G2 :=
  ⟨fun x o n h => b.hh x o n (a.hh x o n h), a.gg.trans b.gg, b.gh, fun x o n h g => b.nw x o n (a.hh x o n h) (a.nw x o n h g)⟩
/-- one of the three is written -/
theorem Vs.wr {p : Pl} {H G : Hp} {x : Addr} {o : HO} (hx : p.on x) (eg : Ex G H) (hn : ∀ x, p.on x → G x = none) : Vs p H G (upd H x o) G where
  hh := fun y u n h => by rw [upd_ne (fun z : y = x => n (by rw [z]; exact hx))]; exact h
  gg := Ex.refl G
  gh := fun y u h => by
    rw [upd_ne (fun z => by rw [z, hn x hx] at h; cases h)]
    exact eg y u h
  nw := fun _ _ _ _ n => n
def ov (p : Pl) (H G : Hp) : Hp := fun x => if p.on x then H x else G x
def cut3 (p : Pl) (G : Hp) : Hp := fun x => if p.on x then none else G x
section
variable {K : PySem.W.Frag} {C : Addr} {p : Pl} {H G H2 G2 : Hp} {t : Tb}
theorem ov_on {x : Addr} (h : p.on x) : ov p H G x = H x := if_pos h
theorem ov_off {x : Addr} (h : ¬ p.on x) : ov p H G x = G x := if_neg h
theorem on_a : p.on p.a := .inl rfl
theorem on_r : p.on p.r := .inr (.inl rfl)
theorem on_b : p.on p.b := .inr (.inr rfl)
theorem ov_ex (eg : Ex G H) : Ex (ov p H G) H := fun x o h => by
  by_cases hx : p.on x
  · rwa [ov_on hx] at h
  · rw [ov_off hx] at h; exact eg x o h
theorem ov_up (c : CorM K C p H G t) : Ex G (ov p H G) := fun x o h => by
  by_cases hx : p.on x
  · rw [c.no x hx] at h; cases h
  · rw [ov_off hx]; exact h
theorem cut_vx (eg : Ex G H) (c : CorM K C p H G t) (v : Vx H (ov p H G) H2 G2) : Vx H G H2 (cut3 p G2) where
  hh := v.hh
  gg := fun x o h => by
    have hx : ¬ p.on x := fun z => by rw [c.no x z] at h; cases h
    unfold cut3
    rw [if_neg hx]
    exact v.gg x o (ov_up c x o h)
  gh := fun x o h => by
    unfold cut3 at h
    by_cases hx : p.on x
    · rw [if_pos hx] at h; cases h
    · rw [if_neg hx] at h; exact v.gh x o h
  nw := fun x o h n => by
    unfold cut3
    by_cases hx : p.on x
    · rw [if_pos hx]
    · rw [if_neg hx]
      exact v.nw x o h (by rw [ov_off hx]; exact n)
theorem CorM.on_some (c : CorM K C p H G t) {x : Addr} (h : p.on x) : ∃ o, H x = some o := by
  obtain ⟨rvs, lv, h1, h2, _⟩ := c.ex
  rcases h with h | h | h
  · exact ⟨_, by rw [h]; exact h1⟩
  · exact ⟨_, by rw [h]; exact h2⟩
  · exact ⟨_, by rw [h]; exact c.hb⟩
theorem CorM.mono (c : CorM K C p H G t) (v : Vx H G H2 G2) : CorM K C p H2 G2 t := by
  obtain ⟨rvs, lv, h1, h2, h3, h4⟩ := c.ex
  refine ⟨⟨rvs, lv, v.hh _ _ h1, v.hh _ _ h2, h3.mono v.gg, h4.mono v.gg⟩, v.hh _ _ c.hb, fun x hx => ?_, c.ar, c.ab, c.rb⟩
  obtain ⟨o, ho⟩ := c.on_some hx
  exact v.nw x o ho (c.no x hx)
/-- the view with the three is the view that came back -/
theorem ov_back (c : CorM K C p H G t) (v : Vx H (ov p H G) H2 G2) : ov p H2 (cut3 p G2) = G2 := by
  funext x
  by_cases hx : p.on x
  · rw [ov_on hx]
    obtain ⟨o, ho⟩ := c.on_some hx
    rw [v.hh x o ho, v.gg x o (by rw [ov_on hx]; exact ho)]
  · rw [ov_off hx]
    unfold cut3
    rw [if_neg hx]
theorem CorM.inst (c : CorM K C p H G t) (eg : Ex G H) : cOk K (ov p H G) (tC C t) (.ref p.a) := by
  obtain ⟨rvs, lv, h1, h2, h3, h4⟩ := c.ex
  refine ⟨p.a, p.dx, _, rfl, by rw [ov_on on_a]; exact h1, fun f d hf => ?_, fun f hf => ?_⟩
  · unfold corF at hf
    rw [List.lookup_cons, List.lookup_cons, List.lookup_cons] at hf
    rw [List.lookup_cons, List.lookup_cons, List.lookup_cons]
    by_cases e1 : (f == ("rows" : Str)) = true
    · rw [e1] at hf ⊢
      cases hf
      exact ⟨_, rfl, Rp.lst (by rw [ov_on on_r]; exact h2) (h3.mono (ov_up c))⟩
    · rw [Bool.eq_false_iff.mpr e1] at hf ⊢
      by_cases e2 : (f == ("last" : Str)) = true
      · rw [e2] at hf ⊢
        cases hf
        exact ⟨_, rfl, h4.mono (ov_up c)⟩
      · rw [Bool.eq_false_iff.mpr e2] at hf ⊢
        by_cases e3 : (f == ("base" : Str)) = true
        · rw [e3] at hf ⊢
          cases hf
          refine ⟨_, rfl, Rp.lst (by rw [ov_on on_b]; exact c.hb) ?_⟩
          unfold intsD
          have := RpAll.ofInts (K := K) (G := ov p H G) (t.bs.map fun x => ((x : Nat) : Int))
          rw [List.map_map, List.map_map] at this
          exact this
        · rw [Bool.eq_false_iff.mpr e3] at hf
          cases hf
  · unfold corF at hf
    rw [List.lookup_cons, List.lookup_cons, List.lookup_cons] at hf
    rw [List.lookup_cons, List.lookup_cons, List.lookup_cons]
    cases e1 : (f == ("rows" : Str)) with
    | true => rw [e1] at hf; cases hf
    | false =>
      rw [e1] at hf
      cases e2 : (f == ("last" : Str)) with
      | true => rw [e2] at hf; cases hf
      | false =>
        rw [e2] at hf
        cases e3 : (f == ("base" : Str)) with
        | true => rw [e3] at hf; cases hf
        | false => rfl
/-- the environment with the corner seen -/
theorem CorM.env {σ : L2.St} {δ : DE} (c : CorM K C p H G t) (eg : Ex G H) (en : En K G σ δ) (h0 : δ[0]? = some (some (.v (.ref p.a)))) : En K (ov p H G) σ (δ.set 0 (some (tC C t))) := by
  obtain ⟨v, e1, e2⟩ := en.get 0 _ h0
  have e2' : v = V.ref p.a := e2
  subst e2'
  have h1 := (en.mono (ov_up c)).set (v := .ref p.a) (c := tC C t) 0 (c.inst eg)
  have h2 : σ.set 0 (some (V.ref p.a)) = σ := by
    apply List.ext_getElem?
    intro k
    by_cases z : 0 = k
    · subst z
      rw [List.getElem?_set_self (List.getElem?_eq_some_iff.mp e1).1, e1]
    · rw [List.getElem?_set_ne z]
  rwa [h2] at h1
/-- the module's own objects are not tracked -/
def KFree (K : PySem.W.Frag) (H : Hp) : Prop := ∀ q o, K.lookup q = some o → H q = none
theorem kfree_of {X : Cx} {pins : List (Addr × Obj)} {σ : L2.St} {H : Hp} {s : Shared} (I : L2.Inv X pins σ H s) : KFree X.K H := fun q o e => (I.bs q o (I.ok.mod.kin q o e)).2
theorem tW_free {X : Cx} {e : Expr} {σ : L2.St} {H : Hp} {Q : VK} (h : tW X e σ H fun v H2 => KFree X.K H2 → Q v H2) : tW X e σ H Q := fun pins s I =>
  wpAny_mono (h pins s I) (fun u s' ⟨v, H2, I2, r, q⟩ => ⟨v, H2, I2, r, q (kfree_of I2)⟩) fun _ _ z => z
/-- a fraction is none of the three -/
theorem rFr (c : CorM K C p H G t) {v : V} {q : Rat} (h : Rp K (ov p H G) v (frD q)) : Rp K G v (frD q) := by
  have h' : Rp K (ov p H G) v (.tuple [.int q.num, .int q.den]) := h
  cases h' with
  | tup ht r =>
    rename_i x xs
    cases r with
    | cons r1 r =>
      cases r with
      | cons r2 r =>
        cases r
        cases r1
        cases r2
        refine Rp.tup ?_ (.cons (.int _) (.cons (.int _) .nil))
        obtain ⟨rvs, lv, h1, h2, _⟩ := c.ex
        have off : ∀ {ys : List V}, (ov p H G x = some (.tup ys) ∨ ∃ o, ov p H G x = some (.frz o (.tup ys))) → ¬ p.on x := fun {ys} hy hx => by
          rw [ov_on hx] at hy
          rcases hx with z | z | z
          · rw [z, h1] at hy; rcases hy with hy | ⟨o, hy⟩ <;> cases hy
          · rw [z, h2] at hy; rcases hy with hy | ⟨o, hy⟩ <;> cases hy
          · rw [z, c.hb] at hy; rcases hy with hy | ⟨o, hy⟩ <;> cases hy
        rcases ht with ht | ht
        · have nx := off ht
          unfold Rd at ht
          rw [ov_off nx] at ht
          exact .inl ht
        · exact .inr ht
/-- nor is a row, nor what it holds -/
theorem rFrs (c : CorM K C p H G t) : ∀ {vs : List V} {l : List Rat}, RpAll K (ov p H G) vs (frs l) → RpAll K G vs (frs l)
  | vs, [], h => by
    have h' : RpAll K (ov p H G) vs [] := h
    cases h'
    exact .nil
  | vs, q :: l, h => by
    have h' : RpAll K (ov p H G) vs (frD q :: frs l) := h
    cases h' with
    | cons a b => exact .cons (rFr c a) (rFrs c b)
theorem rRow (c : CorM K C p H G t) (eg : Ex G H) (kf : KFree K H) {v : V} {l : List Rat} (hl : l ≠ []) (h : Rp K (ov p H G) v (.list (frs l))) : Rp K G v (.list (frs l)) := by
  cases h with
  | lst hx r =>
    rename_i x xs
    obtain ⟨rvs, lv, h1, h2, h3, _⟩ := c.ex
    have nx : ¬ p.on x := fun z => by
      rw [ov_on z] at hx
      cases l with
      | nil => exact hl rfl
      | cons q l =>
        have r' : RpAll K (ov p H G) xs (frD q :: frs l) := r
        cases r' with
        | cons ra rb =>
          have ra' : Rp K (ov p H G) _ (.tuple [.int q.num, .int q.den]) := ra
          rcases z with z | z | z
          · rw [z, h1] at hx; cases hx
          · rw [z, h2] at hx
            cases hx
            cases hRR : t.RR with
            | nil => rw [hRR] at h3; cases h3
            | cons row RR =>
              rw [hRR] at h3
              cases h3 with
              | cons g1 g2 =>
                have g1' : Rp K G _ (.list (frs row)) := g1
                cases g1' with
                | lst gy _ =>
                  have hy := eg _ _ gy
                  cases ra' with
                  | tup ht _ =>
                    rcases ht with (ht | ⟨o, ht⟩) | ⟨o, its, n, ht, _⟩
                    · have := ov_ex eg _ _ ht
                      rw [hy] at this
                      cases this
                    · have := ov_ex eg _ _ ht
                      rw [hy] at this
                      cases this
                    · rw [kf _ o ht] at hy
                      cases hy
          · rw [z, c.hb] at hx
            have e := HO.lst.inj (Option.some.inj hx)
            cases hbs : t.bs with
            | nil => rw [hbs] at e; cases e
            | cons n bs =>
              rw [hbs] at e
              have := (List.cons.inj e).1
              rw [← this] at ra'
              cases ra'
    rw [ov_off nx] at hx
    exact Rp.lst hx (rFrs c r)
/-- an expression that looks at the corner -/
theorem evC {X : Cx} {δ : DE} {e : Expr} {d : PyData} {σ : L2.St} {H G : Hp} {p : Pl} {t : Tb} {Q : VK} (he : Ey X e (δ.set 0 (some (tC C t))) (.d d)) (eg : Ex G H) (en : En X.K G σ δ) (h0 : δ[0]? = some (some (.v (.ref p.a)))) (c : CorM X.K C p H G t)
    (q : ∀ v H2 G2, Vx H G H2 G2 → CorM X.K C p H2 G2 t → KFree X.K H2 → Rp X.K (ov p H2 G2) v d → Q v H2) : tW X e σ H Q :=
  tW_free (he σ H (ov p H G) _ (ov_ex eg) (c.env eg en h0) fun v H2 G2 v2 o2 kf => by
    have w := cut_vx eg c v2
    refine q v H2 _ w (c.mono w) kf ?_
    rw [ov_back c v2]
    exact o2)
end
end KP
set_option linter.all false
set_option maxRecDepth 100000
set_option maxHeartbeats 4000000
/-! a corner that changes: the statements -/
namespace KP
open PySem PySem.Spec PyProof.Rows L2 KW K68
theorem ix_nat {n j : Nat} (h : j < n) : ixN n (j : Int) = some j := by
  have e : ((j : Int) : Int).toNat = j := by omega
  unfold ixN
  rw [if_pos (show (0 : Int) ≤ (j : Int) by omega), if_pos (show (j : Int) < (n : Int) by omega), e]
section
variable {X : Cx} {C : Addr} {p : Pl} {H G : Hp} {t : Tb} {δ : DE} {σ : L2.St} {D : Ends} {e : Expr} {pos p1 p2 p3 p4 p5 : Pos}
theorem slot0 {K : PySem.W.Frag} (en : En K G σ δ) (h0 : δ[0]? = some (some (.v (.ref p.a)))) : σ[0]? = some (some (.ref p.a)) := by
  obtain ⟨v, e1, e2⟩ := en.get 0 _ h0
  have e2' : v = V.ref p.a := e2
  rw [e1, e2']
/-- x = e, e a fraction -/
theorem c_set {q : Rat} {i : Nat} {x : Str} (hC : Cor X.K C) (he : Ey X e (δ.set 0 (some (tC C t))) (.d (frD q))) (eg : Ex G H) (en : En X.K G σ δ) (h0 : δ[0]? = some (some (.v (.ref p.a)))) (c : CorM X.K C p H G t)
    (hN : X.N.Nodup) (hi : X.N[i]? = some x) (hx : Loc X.env.scope x) (hf : X.fn x = true) (k : ∀ v H2 G2, Vx H G H2 G2 → CorM X.K C p H2 G2 t → En X.K G2 (σ.set i (some v)) (δ.set i (some (.d (frD q)))) → D.nx (σ.set i (some v)) H2)
    (hs : swapsWith e (some (.Name x p1)) pos.line X.env = pure false := by rfl) : tWS X (.Assign [.Name x p1] e pos) D σ H :=
  leS (ps_set hN hi hx peW hs (.inl hf)) (evC he eg en h0 c fun v H2 G2 v2 c2 kf r => k v H2 G2 v2 c2 ((en.mono v2.gg).set (c := .d (frD q)) i (rFr c2 r)))
/-- self.rows[j] = e, e a row -/
theorem c_row {l : List Rat} {j n : Nat} {x self : Str} (hC : Cor X.K C) (he : Ey X e (δ.set 0 (some (tC C t))) (.d (.list (frs l)))) (hl : l ≠ []) (eg : Ex G H) (en : En X.K G σ δ) (h0 : δ[0]? = some (some (.v (.ref p.a)))) (c : CorM X.K C p H G t)
    (hj : δ[n]? = some (some (.d (.int (j : Nat))))) (hjl : j < t.RR.length) (hself : X.N[0]? = some self) (hn : X.N[n]? = some x) (hv0 : Vis X.env.scope self) (hvn : Vis X.env.scope x)
    (k : ∀ H2 G2, Vs p H G H2 G2 → CorM X.K C p H2 G2 { t with RR := t.RR.set j l } → En X.K G2 σ δ → D.nx σ H2)
    (hs : swapsWithSole [.Subscript (.Attribute (.Name self p1) "rows" p2) (.Name x p3) p4] e pos.line X.env = pure false := by rfl) (hw : swappedStores [.Subscript (.Attribute (.Name self p1) "rows" p2) (.Name x p3) p4] e X.env = pure none := by rfl)
    (h1 : (assignEach [.Subscript (.Attribute (.Name self p1) "rows" p2) (.Name x p3) p4] X.env).map (·.2) = [assign (.Subscript (.Attribute (.Name self p1) "rows" p2) (.Name x p3) p4) X.env] := by rfl)
    (hb : attributeBase (.Name self p1) "rows" X.env (eval (.Name self p1) X.env) = eval (.Name self p1) X.env := by rfl)
    (ha : ∀ v, assign (.Subscript (.Attribute (.Name self p1) "rows" p2) (.Name x p3) p4) X.env v = (do
      let ov ← holding [v] (eval (.Attribute (.Name self p1) "rows" p2) X.env)
      let iv ← holding [v, ov] (eval (.Name x p3) X.env)
      standAt p4
      holding [v, ov, iv] (setItem ov iv v)
      release [v, ov, iv] []) := by intro _; rfl)
    (d1 : (self == ("__debug__" : Str)) = false := by decide) (d2 : (self == ("__classdict__" : Str)) = false := by decide) (d3 : (x == ("__debug__" : Str)) = false := by decide) (d4 : (x == ("__classdict__" : Str)) = false := by decide) :
    tWS X (.Assign [.Subscript (.Attribute (.Name self p1) "rows" p2) (.Name x p3) p4] e pos) D σ H := by
  refine leS (ps_asg peW (pg_sub (pe_fld (pe_var hself hv0 d1 d2) hb) (pe_var hn hvn d3 d4) set_list ha) hs hw h1) (evC he eg en h0 c fun v H2 G2 v2 c2 kf r => ?_)
  have rg := rRow c2 v2.gh kf hl r
  obtain ⟨rvs, lv, a1, a2, a3, a4⟩ := id c2.ex
  obtain ⟨u, f1, f2⟩ := en.get n _ hj
  have f2' : Rp X.K G u (.int (j : Nat)) := f2
  cases f2'
  have hlen : rvs.length = t.RR.length := by have := a3.length; rwa [List.length_map] at this
  refine ⟨.ref p.a, slot0 en h0, p.a, C, p.dx, _, .ref p.r, rfl, a1, hC.cls, hC.rows, rfl, .int (j : Nat), f1, p.r, rvs, (j : Nat), j, rfl, rfl, a2, ix_nat (by rw [hlen]; exact hjl), ?_⟩
  have w := (Vs.of (p := p) v2).trans (Vs.wr (o := .lst (rvs.set j v)) on_r v2.gh c2.no)
  refine k _ G2 w ⟨⟨rvs.set j v, lv, ?_, upd_same, ?_, a4⟩, ?_, c2.no, c2.ar, c2.ab, c2.rb⟩ (en.mono v2.gg)
  · rw [upd_ne c2.ar]; exact a1
  · have := a3.set rg j
    rw [List.map_set]
    exact this
  · rw [upd_ne (Ne.symm c2.rb)]; exact c2.hb
/-- self.last = e -/
theorem c_last {l : List Rat} {self : Str} (hC : Cor X.K C) (he : Ey X e (δ.set 0 (some (tC C t))) (.d (.list (frs l)))) (hl : l ≠ []) (eg : Ex G H) (en : En X.K G σ δ) (h0 : δ[0]? = some (some (.v (.ref p.a)))) (c : CorM X.K C p H G t)
    (hself : X.N[0]? = some self) (hv0 : Vis X.env.scope self) (k : ∀ H2 G2, Vs p H G H2 G2 → CorM X.K C p H2 G2 { t with last := l } → En X.K G2 σ δ → D.nx σ H2)
    (hs : swapsWith e (some (.Attribute (.Name self p1) "last" p2)) pos.line X.env = pure false := by rfl)
    (d1 : (self == ("__debug__" : Str)) = false := by decide) (d2 : (self == ("__classdict__" : Str)) = false := by decide) :
    tWS X (.Assign [.Attribute (.Name self p1) "last" p2] e pos) D σ H := by
  refine leS (ps_fld (pe_var hself hv0 d1 d2) peW hs) (evC he eg en h0 c fun v H2 G2 v2 c2 kf r => ?_)
  have rg := rRow c2 v2.gh kf hl r
  obtain ⟨rvs, lv, a1, a2, a3, a4⟩ := id c2.ex
  refine ⟨.ref p.a, slot0 en h0, p.a, C, p.dx, _, rfl, a1, hC.cls, hC.last, by show 3 < 1000; decide, ?_⟩
  have w := (Vs.of (p := p) v2).trans (Vs.wr (o := .ins C p.dx (putF "last" v [("rows", .ref p.r), ("last", lv), ("base", .ref p.b)])) on_a v2.gh c2.no)
  refine k _ G2 w ⟨⟨rvs, v, ?_, ?_, a3, rg⟩, ?_, c2.no, c2.ar, c2.ab, c2.rb⟩ (en.mono v2.gg)
  · rw [upd_same]; rfl
  · rw [upd_ne (Ne.symm c2.ar)]; exact a2
  · rw [upd_ne (Ne.symm c2.ab)]; exact c2.hb
/-- self.base[i] = x -/
theorem c_base {i m n n2 : Nat} {x y self : Str} (hC : Cor X.K C) (eg : Ex G H) (en : En X.K G σ δ) (h0 : δ[0]? = some (some (.v (.ref p.a)))) (c : CorM X.K C p H G t)
    (hi : δ[n]? = some (some (.d (.int (i : Nat))))) (hil : i < t.bs.length) (hm : δ[n2]? = some (some (.d (.int (m : Nat))))) (hself : X.N[0]? = some self) (hn : X.N[n]? = some x) (hn2 : X.N[n2]? = some y) (hv0 : Vis X.env.scope self) (hvn : Vis X.env.scope x) (hvm : Vis X.env.scope y)
    (k : ∀ H2 G2, Vs p H G H2 G2 → CorM X.K C p H2 G2 { t with bs := t.bs.set i m } → En X.K G2 σ δ → D.nx σ H2)
    (hs : swapsWithSole [.Subscript (.Attribute (.Name self p1) "base" p2) (.Name x p3) p4] (.Name y p5) pos.line X.env = pure false := by rfl) (hw : swappedStores [.Subscript (.Attribute (.Name self p1) "base" p2) (.Name x p3) p4] (.Name y p5) X.env = pure none := by rfl)
    (h1 : (assignEach [.Subscript (.Attribute (.Name self p1) "base" p2) (.Name x p3) p4] X.env).map (·.2) = [assign (.Subscript (.Attribute (.Name self p1) "base" p2) (.Name x p3) p4) X.env] := by rfl)
    (hb : attributeBase (.Name self p1) "base" X.env (eval (.Name self p1) X.env) = eval (.Name self p1) X.env := by rfl)
    (ha : ∀ v, assign (.Subscript (.Attribute (.Name self p1) "base" p2) (.Name x p3) p4) X.env v = (do
      let ov ← holding [v] (eval (.Attribute (.Name self p1) "base" p2) X.env)
      let iv ← holding [v, ov] (eval (.Name x p3) X.env)
      standAt p4
      holding [v, ov, iv] (setItem ov iv v)
      release [v, ov, iv] []) := by intro _; rfl)
    (d1 : (self == ("__debug__" : Str)) = false := by decide) (d2 : (self == ("__classdict__" : Str)) = false := by decide) (d3 : (x == ("__debug__" : Str)) = false := by decide) (d4 : (x == ("__classdict__" : Str)) = false := by decide) (d5 : (y == ("__debug__" : Str)) = false := by decide) (d6 : (y == ("__classdict__" : Str)) = false := by decide) :
    tWS X (.Assign [.Subscript (.Attribute (.Name self p1) "base" p2) (.Name x p3) p4] (.Name y p5) pos) D σ H := by
  obtain ⟨rvs, lv, a1, a2, a3, a4⟩ := id c.ex
  obtain ⟨u, f1, f2⟩ := en.get n _ hi
  have f2' : Rp X.K G u (.int (i : Nat)) := f2
  cases f2'
  obtain ⟨u, g1, g2⟩ := en.get n2 _ hm
  have g2' : Rp X.K G u (.int (m : Nat)) := g2
  cases g2'
  refine leS (ps_asg (pe_var hn2 hvm d5 d6) (pg_sub (pe_fld (pe_var hself hv0 d1 d2) hb) (pe_var hn hvn d3 d4) set_list ha) hs hw h1) ⟨_, g1, .ref p.a, slot0 en h0, p.a, C, p.dx, _, .ref p.b, rfl, a1, hC.cls, hC.base, rfl, .int (i : Nat), f1, p.b, _, (i : Nat), i, rfl, rfl, c.hb, ix_nat (by rw [List.length_map]; exact hil), ?_⟩
  have w := Vs.wr (p := p) (o := .lst ((t.bs.map fun x => V.int (x : Nat)).set i (.int (m : Nat)))) on_b eg c.no
  refine k _ G w ⟨⟨rvs, lv, ?_, ?_, a3, a4⟩, ?_, c.no, c.ar, c.ab, c.rb⟩ en
  · rw [upd_ne c.ab]; exact a1
  · rw [upd_ne c.rb]; exact a2
  · rw [upd_same, List.map_set]
theorem i_rangeN {X : Cx} {δ : DE} {a tg : Expr} {m : Int} {n : Nat} {p pos : Pos} (e : m = (n : Nat)) (hg : Gl X "range") (hm : X.mg "range" = none) (h : Ey X a δ (.d (.int m))) (hn : n ≤ 100000) (hs : starEach [a] X.env = [(false, eval a X.env)] := by rfl) : Iy X tg (.Call (.Name "range" p) [a] [] pos) δ (rangeD 0 n) := by
  subst e
  have := i_range (tg := tg) (p := p) (pos := pos) hg hm h (by omega) hs
  rwa [Int.toNat_natCast] at this
theorem ints_of {K : PySem.W.Frag} {G : Hp} {vs : List V} {ns : List Nat} (h : RpAll K G vs (intsD ns)) : vs = ns.map fun x => V.int (x : Nat) := by
  have e : intsD ns = (ns.map fun x => ((x : Nat) : Int)).map PyData.int := by unfold intsD; rw [List.map_map]; rfl
  rw [e] at h
  have := h.ints
  rw [this, List.map_map]
  rfl
theorem rp_ints {K : PySem.W.Frag} {G : Hp} (ns : List Nat) : RpAll K G (ns.map fun x => V.int (x : Nat)) (intsD ns) := by
  have := RpAll.ofInts (K := K) (G := G) (ns.map fun x => ((x : Nat) : Int))
  rw [List.map_map, List.map_map] at this
  exact this
/-- for x in [.. for y in .. if ..]: over a new list of numbers -/
theorem c_for {jx jy : Nat} {x y : Str} {elt iter tst : Expr} {scope : Scope} {lpos px py : Pos} {ds : List PyData} {ns : List Nat} {body : List Stmt} (os : List (Option PyData)) (I : Nat → Tb → Prop) (hi : Iy X (.Name y py) iter (δ.set 0 (some (tC C t))) ds) (ok : BlkOk X.N X.env.scope scope [(y, jy)]) (hlen : os.length = ds.length)
    (ht : ∀ (i : Nat) (d : PyData) (o : Option PyData), ds[i]? = some d → os[i]? = some o → ∀ s H0 Cc cl fp, Ty (BX X scope s H0 Cc cl fp) tst ((δ.set 0 (some (tC C t))).set jy (some (.d d))) o.isSome)
    (h : ∀ (i : Nat) (d r : PyData), ds[i]? = some d → os[i]? = some (some r) → ∀ s H0 Cc cl fp, Ey (BX X scope s H0 Cc cl fp) elt ((δ.set 0 (some (tC C t))).set jy (some (.d d))) (.d r))
    (hos : os.filterMap id = intsD ns) (hz : ds.length ≤ 10000) (hN : X.N.Nodup) (hp : PassesOwn (model X.prog X.w) X.A X.env X.xe) (hjx : X.N[jx]? = some x) (hxl : Loc X.env.scope x) (hfx : X.fn x = true) (hx0 : jx ≠ 0)
    (eg : Ex G H) (en : En X.K G σ δ) (h0 : δ[0]? = some (some (.v (.ref p.a)))) (c : CorM X.K C p H G t) (i0 : I 0 t)
    (step : ∀ (k j : Nat) (σ' : L2.St) (H' G' : Hp) (t' : Tb) (D' : Ends), ns[k]? = some j → I k t' → Ex G' H' → CorM X.K C p H' G' t' → En X.K G' σ' (δ.set jx (some (.d (.int (j : Nat))))) → (∀ H'' G'' t'', Vs p H' G' H'' G'' → CorM X.K C p H'' G'' t'' → En X.K G'' σ' (δ.set jx (some (.d (.int (j : Nat))))) → I (k + 1) t'' → D'.nx σ' H'') → tWSs X body D' σ' H')
    (k : ∀ σ2 H2 G2 t2 o, Vs p H G H2 G2 → CorM X.K C p H2 G2 t2 → En X.K G2 σ2 (δ.set jx o) → I ns.length t2 → D.nx σ2 H2)
    (hl : Loc (relabel scope X.env) y := by exact .inl rfl) (hf : (relabel scope X.env).names.lookup y = some .local := by rfl) (hc : X.calm = true := by rfl) (hj : X.N[jy]? = some y := by rfl) (hjl : jy < δ.length := by exact Nat.le_of_ble_eq_true rfl) (hs : ∀ x, foldedSetIterable iter X.env x = pure x := by intro _; rfl) (hs2 : ∀ x, foldedSetIterable (.ListComp elt [⟨.Name y py, iter, [tst], 0⟩] scope lpos) X.env x = pure x := by intro _; rfl) :
    tWS X (.For (.Name x px) (.ListComp elt [⟨.Name y py, iter, [tst], 0⟩] scope lpos) body [] pos) D σ H := by
  obtain ⟨wi, hwi, hw⟩ := hi
  refine leS (ps_for hp hc (pi_list (pe_lc (te := tB X scope elt) (tt := tBT X scope tst) hc hN hwi ok (fun s H C cl fp => pg_name hN hj hl (.inr hf)) (fun s H C cl fp => pts_one ⟨fun pins s2 σ H2 Q I h => h s H C cl fp pins s2 I⟩) (fun s H0 C cl fp => ⟨fun pins s2 σ H Q I h => h s H0 C cl fp pins s2 I⟩) hs)) (pg_name hN hjx hxl (.inl hfx)) pssW hs2) ?_
  unfold L2.tFor L2.iList
  refine lc_run os hlen hz hw (fun i d o e1 e2 => turns_nameT (by rw [List.length_set]; exact hjl) (fun s H0 Cc cl fp => ht i d o e1 e2 s H0 Cc cl fp) fun y e s H0 Cc cl fp => h i d y e1 (by rw [e2, e]) s H0 Cc cl fp) σ H (ov p H G) _ (ov_ex eg) (c.env eg en h0) fun l H1 G1 v1 hl0 gl0 ⟨vs, hv1, hv2⟩ => ?_
  rw [hos] at hv2
  have ev := ints_of hv2
  subst ev
  have w1 := cut_vx eg c v1
  have c1 := c.mono w1
  have nl : ¬ p.on l := fun z => by
    obtain ⟨o, ho⟩ := c.on_some z
    rw [hl0] at ho
    cases ho
  have gl1 : cut3 p G1 l = none := by unfold cut3; rw [if_neg nl]; exact gl0
  have e2 : Ex (cut3 p G1) (upd (cut3 p G1) l (.lst (ns.map fun x => V.int (x : Nat)))) := Ex.new gl1
  -- the list joins what stays
  have w2 : Vx H G H1 (upd (cut3 p G1) l (.lst (ns.map fun x => V.int (x : Nat)))) := by
    refine ⟨w1.hh, w1.gg.trans e2, fun a o q => ?_, fun a o q n => ?_⟩
    · by_cases z : a = l
      · rw [z, upd_same] at q; rw [z, hv1]; exact q
      · rw [upd_ne z] at q; exact w1.gh a o q
    · rw [upd_ne (ne_of_none q hl0)]
      exact w1.nw a o q n
  have c2 := c.mono w2
  have hG2 : upd (cut3 p G1) l (.lst (ns.map fun x => V.int (x : Nat))) l = some (.lst (ns.map fun x => V.int (x : Nat))) := upd_same
  revert w2 c2 hG2
  generalize upd (cut3 p G1) l (.lst (ns.map fun x => V.int (x : Nat))) = G2
  intro w2 c2 hG2
  have okJ : ItOk X.K (Itl X.K l) G2 (intsD ns) := itl_ok hG2 (rp_ints ns)
  have lenI : (intsD ns).length = ns.length := by unfold intsD; rw [List.length_map]
  refine ⟨l, rfl, ⟨_, SqL.of (w2.gh _ _ hG2)⟩, ?_⟩
  refine ⟨fun i m σ' H' => m = ns.length - i ∧ i ≤ ns.length ∧ ∃ G' t' o, Vs p H G H' G' ∧ Ex G2 G' ∧ CorM X.K C p H' G' t' ∧ En X.K G' σ' (δ.set jx o) ∧ I i t', ⟨ns.length, by omega, Nat.zero_le _, G2, t, δ[jx]?.getD none, Vs.of w2, Ex.refl G2, c2, ?_, i0⟩, ?_⟩
  · have same : δ.set jx (δ[jx]?.getD none) = δ := by
      apply List.ext_getElem?
      intro i
      by_cases z : jx = i
      · subst z
        by_cases hk : jx < δ.length
        · rw [List.getElem?_set_self hk, List.getElem?_eq_getElem hk]; rfl
        · rw [List.getElem?_eq_none (by rw [List.length_set]; omega), List.getElem?_eq_none (by omega)]
      · rw [List.getElem?_set_ne z]
    rw [same]
    exact en.mono w2.gg
  · rintro i m σ' H' ⟨rfl, hil, G', t', o, vs', eG, co, en', hI⟩
    by_cases hlt : i < ns.length
    · have ed : (intsD ns)[i]? = some (.int (ns[i] : Nat)) := by unfold intsD; rw [List.getElem?_map, List.getElem?_eq_getElem hlt]; rfl
      refine .inr ⟨okJ.go i _ H' G' eG vs'.gh ed, fun σ2 H2 => i + 1 ≤ ns.length ∧ ∃ G' t' o, Vs p H G H2 G' ∧ Ex G2 G' ∧ CorM X.K C p H2 G' t' ∧ En X.K G' σ2 (δ.set jx o) ∧ I (i + 1) t', fun σ2 H2 ⟨l, h⟩ => ⟨ns.length - (i + 1), by omega, rfl, l, h⟩, fun u H2 yl => ?_⟩
      obtain ⟨G3, v3, r3⟩ := okJ.yld i _ H' G' u H2 eG vs'.gh ed yl
      have co3 := co.mono v3
      have en3 := (en'.mono v3.gg).set (c := .d (.int (ns[i] : Nat))) jx r3
      rw [List.set_set] at en3
      refine step i ns[i] _ H2 G3 t' _ (List.getElem?_eq_getElem hlt) hI v3.gh co3 en3 fun H4 G4 t4 w4 c4 e4 i4 => ⟨by omega, G4, t4, _, (vs'.trans (Vs.of v3)).trans w4, (eG.trans v3.gg).trans w4.gg, c4, e4, i4⟩
    · have e : i = ns.length := by omega
      subst e
      exact .inl ⟨okJ.stop _ H' G' eG vs'.gh (by rw [lenI]; exact Nat.le_refl _), k σ' H' G' t' o vs' co en' hI⟩
theorem run1 {X : Cx} {st : Stmt} {δ : DE} {Po' : Po} {σ : L2.St} {H G : Hp} {D : Ends} (h : S1 X st δ Po') (eg : Ex G H) (en : En X.K G σ δ) (m : Mt X.K D Po' H G) : tWS X st D σ H := h σ H G D eg en m
theorem runs {X : Cx} {st : List Stmt} {δ : DE} {Po' : Po} {σ : L2.St} {H G : Hp} {D : Ends} (h : Sy X st δ Po') (eg : Ex G H) (en : En X.K G σ δ) (m : Mt X.K D Po' H G) : tWSs X st D σ H := h σ H G D eg en m
/-- a loop, with a word over heaps -/
theorem for_run {X : Cx} {tg iter : Expr} {body : List Stmt} {pos : Pos} {δ : DE} {ds : List PyData} {g : TG} {σ : L2.St} {H G : Hp} {D : Ends} (I : Nat → L2.St → Hp → Hp → Prop) (hi : Iy X tg iter δ ds) (hg : PG X tg g) (hp : PassesOwn (model X.prog X.w) X.A X.env X.xe) (hc : X.calm = true) (eg : Ex G H) (en : En X.K G σ δ)
    (h0 : ∀ H1 G1, Vx H G H1 G1 → I 0 σ H1 G1) (hex : ∀ i σ' H' G', I i σ' H' G' → Ex G' H')
    (step : ∀ i d σ' H' G', ds[i]? = some d → I i σ' H' G' → ∀ v H2 G2, Vx H' G' H2 G2 → Rp X.K G2 v d → ∀ N : L2.St → Hp → Prop, (∀ σ3 H3 G3, Ex G2 G3 → I (i + 1) σ3 H3 G3 → N σ3 H3) → g v σ' H2 fun σ3 H3 => tWSs X body { D with nx := N, ct := N, bk := D.nx } σ3 H3)
    (hd : ∀ σ' H' G', I ds.length σ' H' G' → D.nx σ' H') (hs : ∀ x, foldedSetIterable iter X.env x = pure x := by intro _; rfl) : tWS X (.For tg iter body [] pos) D σ H := by
  obtain ⟨wi, hwi, hw⟩ := hi
  refine leS (ps_for hp hc hwi hg pssW hs) (hw σ H G _ eg en fun J H1 G1 v1 ok => ?_)
  refine ⟨fun i m σ' H' => m = ds.length - i ∧ i ≤ ds.length ∧ ∃ G', Ex G1 G' ∧ I i σ' H' G', ⟨ds.length, by omega, Nat.zero_le _, G1, Ex.refl G1, h0 H1 G1 v1⟩, ?_⟩
  rintro i m σ' H' ⟨rfl, hi, G', eG, hI⟩
  by_cases hlt : i < ds.length
  · refine .inr ⟨ok.go i _ H' G' eG (hex _ _ _ _ hI) (List.getElem?_eq_getElem hlt), fun σ2 H2 => i + 1 ≤ ds.length ∧ ∃ G', Ex G1 G' ∧ I (i + 1) σ2 H2 G', fun σ2 H2 ⟨l, h⟩ => ⟨ds.length - (i + 1), by omega, rfl, l, h⟩, fun x H2 y => ?_⟩
    obtain ⟨G2, v2, r2⟩ := ok.yld i _ H' G' x H2 eG (hex _ _ _ _ hI) (List.getElem?_eq_getElem hlt) y
    exact step i _ σ' H' G' (List.getElem?_eq_getElem hlt) hI x H2 G2 v2 r2 _ fun σ3 H3 G3 e3 h3 => ⟨by omega, G3, eG.trans (v2.gg.trans e3), h3⟩
  · have e : i = ds.length := by omega
    subst e
    exact .inl ⟨ok.stop _ H' G' eG (hex _ _ _ _ hI) (Nat.le_refl _), hd σ' H' G' hI⟩
end
end KP
set_option linter.all false
set_option maxRecDepth 100000
set_option maxHeartbeats 4000000
/-! Corner.turn -/
namespace KP
open PySem PySem.Spec PyProof.Rows L2 KW K68
def rowAt (t : Tb) (i : Nat) : List Rat := t.RR.getD i []
def prow (t : Tb) (i c : Nat) : List Rat := (rowAt t i).map fun x => x / (rowAt t i).getD c 0
def stepR (t : Tb) (i c : Nat) (dn : List Nat) : List (List Rat) := t.RR.zipIdx.map fun p => if p.2 = i then prow t i c else if p.2 ∈ dn then lessT p.1 (prow t i c) c else p.1
def others (n i : Nat) : List Nat := (List.range n).filter fun j => decide (j ≠ i)
def turnT (t : Tb) (i c : Nat) : Tb := ⟨stepR t i c (others t.RR.length i), lessT t.last (prow t i c) c, t.bs.set i c⟩
structure TurnOk (t : Tb) (i c L : Nat) : Prop where
  il : i < t.RR.length
  sz : t.RR.length ≤ 100
  wd : ∀ r ∈ t.RR, r.length = L
  lw : t.last.length = L
  L1 : L ≤ 1000
  cl : c < L
  bl : t.bs.length = t.RR.length
  nz : (rowAt t i).getD c 0 ≠ 0
  sr : ∀ r ∈ t.RR, ∀ q ∈ r, Sm q
  sl : ∀ q ∈ t.last, Sm q
  sr' : ∀ r ∈ (turnT t i c).RR, ∀ q ∈ r, Sm q
  sl' : ∀ q ∈ (turnT t i c).last, Sm q
section
variable {t : Tb} {i c L : Nat}
theorem TurnOk.row (h : TurnOk t i c L) : t.RR[i]? = some (rowAt t i) := by
  unfold rowAt
  rw [List.getD_eq_getElem?_getD, List.getElem?_eq_getElem h.il]
  rfl
theorem TurnOk.rl (h : TurnOk t i c L) : (rowAt t i).length = L := h.wd _ (List.mem_of_getElem? h.row)
theorem prow_len (h : TurnOk t i c L) : (prow t i c).length = L := by
  unfold prow
  rw [List.length_map, h.rl]
theorem stepR_len (dn : List Nat) : (stepR t i c dn).length = t.RR.length := by
  unfold stepR
  rw [List.length_map, List.length_zipIdx]
theorem stepR_at {dn : List Nat} {j : Nat} {r : List Rat} (h : t.RR[j]? = some r) : (stepR t i c dn)[j]? = some (if j = i then prow t i c else if j ∈ dn then lessT r (prow t i c) c else r) := by
  unfold stepR
  rw [List.getElem?_map, List.getElem?_zipIdx, h]
  simp
theorem mem_others {n j : Nat} : j ∈ others n i ↔ j < n ∧ j ≠ i := by
  unfold others
  rw [List.mem_filter, List.mem_range]
  simp
theorem TurnOk.prow_mem (h : TurnOk t i c L) : prow t i c ∈ (turnT t i c).RR := by
  have := stepR_at (i := i) (c := c) (dn := others t.RR.length i) h.row
  rw [if_pos rfl] at this
  exact List.mem_of_getElem? this
theorem TurnOk.sp (h : TurnOk t i c L) : ∀ q ∈ prow t i c, Sm q := h.sr' _ h.prow_mem
theorem TurnOk.sn (h : TurnOk t i c L) {j : Nat} {r : List Rat} (hj : t.RR[j]? = some r) (hne : j ≠ i) : ∀ q ∈ lessT r (prow t i c) c, Sm q := by
  have h1 := stepR_at (i := i) (c := c) (dn := others t.RR.length i) hj
  rw [if_neg hne, if_pos (mem_others.mpr ⟨(List.getElem?_eq_some_iff.mp hj).1, hne⟩)] at h1
  exact h.sr' _ (List.mem_of_getElem? h1)
theorem step_set {dn : List Nat} {j : Nat} {r : List Rat} (hj : t.RR[j]? = some r) (hne : j ≠ i) : (stepR t i c dn).set j (lessT r (prow t i c) c) = stepR t i c (dn ++ [j]) := by
  apply List.ext_getElem?
  intro k
  by_cases hk : k < t.RR.length
  · have ek := List.getElem?_eq_getElem hk
    rw [stepR_at (dn := dn ++ [j]) ek]
    by_cases z : j = k
    · subst z
      rw [List.getElem?_set_self (by rw [stepR_len]; exact hk), if_neg hne, if_pos (by simp)]
      rw [hj] at ek
      cases ek
      rfl
    · rw [List.getElem?_set_ne z, stepR_at ek]
      congr 1
      by_cases h1 : k = i
      · rw [if_pos h1, if_pos h1]
      · rw [if_neg h1, if_neg h1]
        by_cases h2 : k ∈ dn
        · rw [if_pos h2, if_pos (by simp [h2])]
        · rw [if_neg h2, if_neg (by simp [h2]; exact fun q => z q.symm)]
  · rw [List.getElem?_eq_none (by rw [List.length_set, stepR_len]; omega), List.getElem?_eq_none (by rw [stepR_len]; omega)]
theorem step_nil (h : TurnOk t i c L) : t.RR.set i (prow t i c) = stepR t i c [] := by
  apply List.ext_getElem?
  intro k
  by_cases hk : k < t.RR.length
  · have ek := List.getElem?_eq_getElem hk
    rw [stepR_at ek]
    by_cases z : i = k
    · subst z
      rw [List.getElem?_set_self hk, if_pos rfl]
    · rw [List.getElem?_set_ne z, ek, if_neg (Ne.symm z), if_neg (by simp)]
  · rw [List.getElem?_eq_none (by rw [List.length_set]; omega), List.getElem?_eq_none (by rw [stepR_len]; omega)]
end
end KP
set_option linter.all false
set_option maxRecDepth 100000
set_option maxHeartbeats 4000000
/-! Corner.turn -/
namespace KP
open PySem PySem.Spec PyProof.Rows L2 KW K68
/-- what turn keeps -/
def spTurn (K : PySem.W.Frag) (C : Addr) : Sp := fun vs H Q _ => ∃ (G : Hp) (p : Pl) (t : Tb) (i c L : Nat), vs = [.ref p.a, .int (i : Nat), .int (c : Nat)] ∧ Ex G H ∧ CorM K C p H G t ∧ TurnOk t i c L ∧ ∀ H2 G2, Vs p H G H2 G2 → CorM K C p H2 G2 (turnT t i c) → Q .non H2
structure Mx2 (P : Program) (w : World) (K : PySem.W.Frag) (mg : Str → Option Value) (base : Heap) (k : Nat) (C : Addr) (m : Str) (sp : Sp) : Prop where
  ex : ∃ (f : Addr) (fd : FuncData) (ps : List Str), FnOk P w K mg base CX0 k f fd ps sp ∧ Meth K C m f ∧ Binds K fd ps []
section
variable {P : Program} {w : World} {K : PySem.W.Frag} {mg : Str → Option Value} {base : Heap}
theorem CorM.rr {C : Addr} {p : Pl} {H G : Hp} {t : Tb} {RR : List (List Rat)} (c : CorM K C p H G t) (e : t.RR = RR) : CorM K C p H G ⟨RR, t.last, t.bs⟩ := by
  subst e; exact c
theorem ok_turn (B : Bl mg) {C : Addr} (hC : Cor K C) (h : HasM K C "turn" "Corner.turn" s_Corner_turn ["self", "place", "column"]) (hd : Cb P w K mg base 3 "divided" R_divided) (hlt : Cb P w K mg base 4 "less_times" R_lesst) : Mx2 P w K mg base 5 C "turn" (spTurn K C) := by
  obtain ⟨f, fd, hm, F, hb⟩ := h.ex
  refine ⟨f, fd, _, F.ok (k := 4) c_Corner_turn (fun vs H Q E h => ?_) (fun cdv A outer s H vs Q E hr h => ?_), hm, hb⟩
  · obtain ⟨G, p, t, i, c, L, rfl, _⟩ := h
    rfl
  obtain ⟨G, p, t, i, c, L, rfl, eg, co, ok, q⟩ := h
  refine ⟨_, pssW, ?_⟩
  have en : En K G (L2.start ["self", "place", "column", "head", "other", "one", "at"] [.ref p.a, .int (i : Nat), .int (c : Nat)]) (stD ["self", "place", "column", "head", "other", "one", "at"] [.v (.ref p.a), .d (.int (i : Nat)), .d (.int (c : Nat))]) := start_en (.cons rfl (.cons (Rp.int _) (.cons (Rp.int _) .nil)))
  have er := ok.row
  have rl := ok.rl
  have hcl := ok.cl
  have hz := ok.L1
  have atr : atI (t.RR.map lrowD) ((i : Nat) : Int) = some (lrowD (rowAt t i)) := atI_nat (by rw [List.getElem?_map, er]; rfl)
  have ec : (rowAt t i)[c]? = some ((rowAt t i).getD c 0) := by rw [List.getD_eq_getElem?_getD, List.getElem?_eq_getElem (by omega)]; rfl
  have sh : Sm ((rowAt t i).getD c 0) := ok.sr _ (List.mem_of_getElem? er) _ (List.mem_of_getElem? ec)
  have pl := prow_len ok
  have pne : prow t i c ≠ [] := fun z => by rw [z] at pl; simp at pl; omega
  -- head
  refine leSs (pss_cons psW pssW) (c_set (X := bX P w K mg base ["self", "place", "column", "head", "other", "one", "at"] "Corner.turn" s_Corner_turn f cdv A outer s H E) (q := (rowAt t i).getD c 0) (i := 3) hC (y_ix (x_lst (ds := frs (rowAt t i)) (atI_nat (frs_get ec))) (y_ix (x_lst (ds := t.RR.map lrowD) atr) (y_fld (yv 0) hC.cls hC.rows rfl) (yv 1)) (yv 2)) eg en rfl co c_Corner_turn.nd rfl (.inr rfl) rfl fun v H1 G1 v1 co1 en1 => ?_)
  -- the row itself
  refine leSs (pss_cons psW pssW) (c_row (X := bX P w K mg base ["self", "place", "column", "head", "other", "one", "at"] "Corner.turn" s_Corner_turn f cdv A outer s H E) (l := prow t i c) (j := i) (n := 1) hC (y_lcN (rs := frs (prow t i c)) c_Corner_turn.nd 5 (i_list (ds := frs (rowAt t i)) (y_ix (x_lst (ds := t.RR.map lrowD) atr) (y_fld (yv 0) hC.cls hC.rows rfl) (yv 1))) b_Corner_turn_0 (by rw [frs_len, frs_len, pl, rl]) (fun j d r hd' hr' s H0 C' cl fp => ?_) (by rw [frs_len]; omega)) pne v1.gh en1 rfl co1 rfl ok.il rfl rfl (.inl rfl) (.inr (.inl rfl)) fun H2 G2 w2 co2 en2 => ?_)
  · obtain ⟨x, ex, rfl⟩ := frs_at hd'
    obtain ⟨y, ey, rfl⟩ := frs_at hr'
    unfold prow at ey
    rw [List.getElem?_map, ex] at ey
    cases ey
    exact y_cb2 hd hr (by decide) (yv 5) (yv 3) ⟨x, _, rfl, .inl ⟨ok.sr _ (List.mem_of_getElem? er) _ (List.mem_of_getElem? ex), sh⟩, ok.nz, rfl⟩
  have co2' : CorM K C p H2 G2 ⟨stepR t i c [], t.last, t.bs⟩ := co2.rr (step_nil ok)
  clear co2
  -- the others
  have lenO : (others t.RR.length i).length ≤ 100 := by
    unfold others
    have h1 := List.length_filter_le (fun j => decide (j ≠ i)) (List.range t.RR.length)
    rw [List.length_range] at h1
    have := ok.sz
    omega
  have ndO : (others t.RR.length i).Nodup := List.Nodup.sublist List.filter_sublist List.nodup_range
  have fmO : ((List.range t.RR.length).map fun j => if j ≠ i then some (PyData.int (j : Nat)) else none).filterMap id = intsD (others t.RR.length i) := by
    unfold others
    induction List.range t.RR.length with
    | nil => rfl
    | cons x xs ih =>
      rw [List.map_cons]
      by_cases h : x ≠ i
      · rw [if_pos h, List.filterMap_cons_some (by rfl), List.filter_cons_of_pos (by simpa using h), ih]
        rfl
      · rw [if_neg h, List.filterMap_cons_none (by rfl), List.filter_cons_of_neg (by simpa using h), ih]
  refine leSs (pss_cons psW pssW) (c_for (X := bX P w K mg base ["self", "place", "column", "head", "other", "one", "at"] "Corner.turn" s_Corner_turn f cdv A outer s H E) (p := p) (C := C) (t := ⟨stepR t i c [], t.last, t.bs⟩) (jx := 4) (jy := 6) (ns := others t.RR.length i) (ds := rangeD 0 t.RR.length) ((List.range t.RR.length).map fun j => if j ≠ i then some (PyData.int (j : Nat)) else none) (fun k t' => t' = ⟨stepR t i c ((others t.RR.length i).take k), t.last, t.bs⟩)
    ?_ b_Corner_turn_1 ?_ (fun j d o hd' ho s H0 C' cl fp => ?_) (fun j d r hd' ho s H0 C' cl fp => ?_) fmO ?_ c_Corner_turn.nd PassesOwn.never rfl (.inl rfl) rfl (by decide) w2.gh en2 rfl co2' ?_ (fun k j σ' H' G' t' D' hk hI eg' co' en' cont => ?_) (fun σ2 H3 G3 t2 o w3 co3 en3 hI => ?_))
  · exact i_rangeN (by rw [List.length_map, stepR_len]) rfl B.range (y_b1 (c_lenL (ds := (stepR t i c []).map lrowD)) B.len (y_fld (yv 0) hC.cls hC.rows rfl)) (by have := ok.sz; omega)
  · rw [rangeD_len, List.length_map, List.length_range]
  · obtain ⟨hj, rfl⟩ := rangeD_at hd'
    rw [List.getElem?_map, List.getElem?_range hj] at ho
    cases ho
    have e1 : (if j ≠ i then some (PyData.int (j : Nat)) else none).isSome = !decide (((0 : Int) + (j : Int)) = (i : Int)) := by
      by_cases h : j = i
      · rw [if_neg (by simpa using h), decide_eq_true (by omega)]; rfl
      · rw [if_pos h, decide_eq_false (by omega)]; rfl
    rw [e1]
    exact t_cmp o_neI (yv 6) (yv 1) rfl
  · obtain ⟨hj, rfl⟩ := rangeD_at hd'
    rw [List.getElem?_map, List.getElem?_range hj] at ho
    by_cases h : j ≠ i
    · rw [Option.map_some, if_pos h] at ho
      cases ho
      refine y_conv (yv 6) ?_
      show PyData.int ((0 : Int) + (j : Int)) = PyData.int (j : Nat)
      rw [Int.zero_add]
    · rw [Option.map_some, if_neg h] at ho
      cases ho
  · rw [rangeD_len]; have := ok.sz; omega
  · rw [List.take_zero]
  · -- one of the others
    subst hI
    have jm := List.mem_of_getElem? hk
    obtain ⟨jl, jne⟩ := mem_others.mp jm
    have ej := List.getElem?_eq_getElem jl
    have jn : j ∉ (others t.RR.length i).take k := fun m => by
      obtain ⟨k', hk'⟩ := List.mem_iff_getElem?.mp m
      have lk := (List.getElem?_eq_some_iff.mp hk').1
      rw [List.length_take] at lk
      rw [List.getElem?_take_of_lt (by omega)] at hk'
      have l1 := (List.getElem?_eq_some_iff.mp hk).1
      have := (List.getElem_inj ndO).mp ((List.getElem?_eq_some_iff.mp hk').2.trans (List.getElem?_eq_some_iff.mp hk).2.symm)
      omega
    have aj := stepR_at (i := i) (c := c) (dn := (others t.RR.length i).take k) ej
    rw [if_neg jne, if_neg jn] at aj
    have ai := stepR_at (i := i) (c := c) (dn := (others t.RR.length i).take k) er
    rw [if_pos rfl] at ai
    have lw : t.RR[j].length = L := ok.wd _ (List.mem_of_getElem? ej)
    have lt := (lessT t.RR[j] (prow t i c) c)
    have lne : lessT t.RR[j] (prow t i c) c ≠ [] := fun z => by
      have := congrArg List.length z
      unfold lessT at this
      rw [List.length_zipWith, lw, pl] at this
      simp at this
      omega
    refine leSs (pss_one psW) (c_row (X := bX P w K mg base ["self", "place", "column", "head", "other", "one", "at"] "Corner.turn" s_Corner_turn f cdv A outer s H E) (l := lessT t.RR[j] (prow t i c) c) (j := j) (n := 4) hC (y_cb3 hlt hr (Nat.le_refl _) (y_ix (x_lst (ds := (stepR t i c ((others t.RR.length i).take k)).map lrowD) (d := lrowD t.RR[j]) (atI_nat (by rw [List.getElem?_map, aj]; rfl))) (y_fld (yv 0) hC.cls hC.rows rfl) (yv 4)) (y_ix (x_lst (ds := (stepR t i c ((others t.RR.length i).take k)).map lrowD) (d := lrowD (prow t i c)) (atI_nat (by rw [List.getElem?_map, ai]; rfl))) (y_fld (yv 0) hC.cls hC.rows rfl) (yv 1)) (yv 2)
      ⟨t.RR[j], prow t i c, c, rfl, by omega, by omega, ok.sr _ (List.mem_of_getElem? ej), ok.sp, ok.sn ej jne, rfl⟩) lne eg' en' rfl co' rfl (by rw [stepR_len]; exact jl) rfl rfl (.inl rfl) (.inl rfl) fun H4 G4 w4 co4 en4 => cont H4 G4 _ w4 co4 en4 ?_)
    show Tb.mk _ _ _ = Tb.mk _ _ _
    rw [step_set ej jne, ← List.take_append_getElem (List.getElem?_eq_some_iff.mp hk).1, (List.getElem?_eq_some_iff.mp hk).2]
  · subst hI
    rw [List.take_length] at co3
    have ai := stepR_at (i := i) (c := c) (dn := others t.RR.length i) er
    rw [if_pos rfl] at ai
    have lne : lessT t.last (prow t i c) c ≠ [] := fun z => by
      have := congrArg List.length z
      unfold lessT at this
      rw [List.length_zipWith, ok.lw, pl] at this
      simp at this
      omega
    have w12 : Vs p H G H3 G3 := ((Vs.of v1).trans w2).trans w3
    refine leSs (pss_cons psW pssW) (c_last (X := bX P w K mg base ["self", "place", "column", "head", "other", "one", "at"] "Corner.turn" s_Corner_turn f cdv A outer s H E) (l := lessT t.last (prow t i c) c) hC (y_cb3 hlt hr (Nat.le_refl _) (y_fld (yv 0) hC.cls hC.last rfl) (y_ix (x_lst (ds := (stepR t i c (others t.RR.length i)).map lrowD) (d := lrowD (prow t i c)) (atI_nat (by rw [List.getElem?_map, ai]; rfl))) (y_fld (yv 0) hC.cls hC.rows rfl) (yv 1)) (yv 2)
      ⟨t.last, prow t i c, c, rfl, by rw [ok.lw]; exact hz, by rw [ok.lw]; exact hcl, ok.sl, ok.sp, ok.sl', rfl⟩) lne w3.gh en3 rfl co3 rfl (.inl rfl) fun H4 G4 w4 co4 en4 => ?_)
    refine leSs (pss_one psW) (c_base (X := bX P w K mg base ["self", "place", "column", "head", "other", "one", "at"] "Corner.turn" s_Corner_turn f cdv A outer s H E) (i := i) (m := c) (n := 1) (n2 := 2) hC w4.gh en4 rfl co4 rfl (by rw [ok.bl]; exact ok.il) rfl rfl rfl rfl (.inl rfl) (.inr (.inl rfl)) (.inl rfl) fun H5 G5 w5 co5 en5 => ?_)
    exact q H5 G5 ((w12.trans w4).trans w5) co5
end
end KP
set_option linter.all false
set_option maxRecDepth 100000
set_option maxHeartbeats 4000000
/-! Corner.go -/
namespace KP
open PySem PySem.Spec PyProof.Rows L2 KW K68
theorem y_mb0 {X : Cx} {δ : DE} {k k' : Nat} {C : Addr} {m : Str} {R : List Cl → PyData → Prop} {o : Expr} {fs : List (Str × PyData)} {d : PyData} {pos apos : Pos} {pl : Sem Bool} (M : Mb X.prog X.w X.K X.mg X.base k C m R) (hr : Room k' X.A) (hk : k ≤ k') (hC : Cls X.K C) (hnf : fs.lookup m = none) (ho : Ey X o δ (.i C fs)) (hR : R [.i C fs] d)
    (ht : eval (.Call (.Attribute o m apos) [] [] pos) X.env = (do
      let ov ← eval o X.env
      standAt apos.atName
      let (f, first) ← holding [ov] (getMethod ov m pl)
      callWith pos f first (backTo pos (starEach [] X.env)) (backToKw pos (keywordEach [] X.env))) := by rfl) : Ey X (.Call (.Attribute o m apos) [] [] pos) δ (.d d) := by
  obtain ⟨f, fd, ps, F, hm, hb⟩ := M.ex
  exact y_meth0 (pl := pl) (F.mono hk) hr hb hC hm hnf ho hR ht
theorem y_mb1 {X : Cx} {δ : DE} {k k' : Nat} {C : Addr} {m : Str} {R : List Cl → PyData → Prop} {o e : Expr} {c : Cl} {fs : List (Str × PyData)} {d : PyData} {pos apos : Pos} {pl : Sem Bool} (M : Mb X.prog X.w X.K X.mg X.base k C m R) (hr : Room k' X.A) (hk : k ≤ k') (hC : Cls X.K C) (hnf : fs.lookup m = none) (ho : Ey X o δ (.i C fs)) (he : Ey X e δ c) (hR : R [.i C fs, c] d)
    (hst : starEach [e] X.env = (false, eval e X.env) :: starEach [] X.env := by rfl)
    (ht : eval (.Call (.Attribute o m apos) [e] [] pos) X.env = (do
      let ov ← eval o X.env
      standAt apos.atName
      let (f, first) ← holding [ov] (getMethod ov m pl)
      callWith pos f first (backTo pos (starEach [e] X.env)) (backToKw pos (keywordEach [] X.env))) := by rfl) : Ey X (.Call (.Attribute o m apos) [e] [] pos) δ (.d d) := by
  obtain ⟨f, fd, ps, F, hm, hb⟩ := M.ex
  exact y_meth (pl := pl) (F.mono hk) hr hb hC hm hnf ho (a_cons he a_nil hst) hR hst rfl ht
/-- what a run of turns keeps: m counts down -/
structure RunOk (L : Nat) (Run : Nat → Tb → Prop) : Prop where
  sz : ∀ m t, Run m t → t.last.length ≤ 1000 ∧ ∀ q ∈ t.last, Sm q
  go : ∀ m t c, Run m t → entF t.last = some c → LvOk t.RR t.bs c ∧ ∃ i : Nat, leaveF t.RR t.bs c = (i : Int) ∧ TurnOk t i c L ∧ ∃ m', m' < m ∧ Run m' (turnT t i c)
def spGo (K : PySem.W.Frag) (C : Addr) : Sp := fun vs H Q _ => ∃ (G : Hp) (p : Pl) (t : Tb) (L m : Nat) (Run : Nat → Tb → Prop), vs = [.ref p.a] ∧ Ex G H ∧ CorM K C p H G t ∧ RunOk L Run ∧ Run m t ∧ ∀ H2 G2 m2 t2, Vs p H G H2 G2 → CorM K C p H2 G2 t2 → Run m2 t2 → entF t2.last = none → Q .non H2
theorem rEnt {K : PySem.W.Frag} {G G2 : Hp} {v : V} {o : Option Nat} (h : Rp K G v (entD o)) : Rp K G2 v (entD o) := by
  cases o with
  | none => cases h; exact Rp.non
  | some i => cases h; exact Rp.int _
section
variable {P : Program} {w : World} {K : PySem.W.Frag} {mg : Str → Option Value} {base : Heap}
theorem ok_go {C : Addr} (hC : Cor K C) (h : HasM K C "go" "Corner.go" s_Corner_go ["self"]) (hen : Mb P w K mg base 2 C "entering" (R_ent C)) (hlv : Mb P w K mg base 4 C "leaving" (R_lv C)) (htu : Mx2 P w K mg base 5 C "turn" (spTurn K C)) : Mx2 P w K mg base 6 C "go" (spGo K C) := by
  obtain ⟨f, fd, hm, F, hb⟩ := h.ex
  obtain ⟨ft, fdt, pst, Ft, hmt, hbt⟩ := htu.ex
  refine ⟨f, fd, _, F.ok (k := 5) c_Corner_go (fun vs H Q E h => ?_) (fun cdv A outer s H vs Q E hr h => ?_), hm, hb⟩
  · obtain ⟨G, p, t, L, m, Run, rfl, _⟩ := h
    rfl
  obtain ⟨G, p, t, L, m, Run, rfl, eg, co, ok, hrun, q⟩ := h
  refine ⟨_, pssW, ?_⟩
  have en : En K G (L2.start ["self", "column"] [.ref p.a]) (stD ["self", "column"] [.v (.ref p.a)]) := start_en (.cons rfl .nil)
  obtain ⟨z1, z2⟩ := ok.sz m t hrun
  -- column = self.entering()
  refine leSs (pss_cons (ps_set (i := 1) (X := bX P w K mg base ["self", "column"] "Corner.go" s_Corner_go f cdv A outer s H E) c_Corner_go.nd rfl (.inl rfl) peW rfl (.inl rfl)) pssW) (evC (X := bX P w K mg base ["self", "column"] "Corner.go" s_Corner_go f cdv A outer s H E) (p := p) (C := C) (t := t) (d := entD (entF t.last)) (y_mb0 hen hr (by decide) hC.cls rfl (yv 0) ⟨t.RR, t.last, t.bs, rfl, z1, z2, rfl⟩) eg en rfl co fun v H1 G1 v1 co1 kf r => ?_)
  have en1 := (en.mono v1.gg).set (v := v) (c := .d (entD (entF t.last))) 1 (rEnt r)
  refine leSs (pss_one (ps_while PassesOwn.never ptW pssW)) ⟨fun m' σ' H' => ∃ G' t', Vs p H G H' G' ∧ CorM K C p H' G' t' ∧ En K G' σ' [some (.v (.ref p.a)), some (.d (entD (entF t'.last)))] ∧ Run m' t', ⟨m, G1, t, Vs.of v1, co1, en1, hrun⟩, ?_⟩
  rintro m' σ' H' ⟨G', t', vs', co', en', hrun'⟩
  have tt : ∀ o : Option Nat, Ty (bX P w K mg base ["self", "column"] "Corner.go" s_Corner_go f cdv A outer s H E) (.Compare (.Name "column" ⟨111, 14, 111, 20⟩) [.IsNot] [.Constant .none 0 ⟨111, 28, 111, 32⟩] ⟨111, 14, 111, 32⟩) [some (.v (.ref p.a)), some (.d (entD o))] o.isSome := fun o => by
    cases o with
    | none => exact t_cmp o_notN (yv 1) y_non rfl
    | some i => exact t_cmp o_notN (yv 1) y_non rfl
  refine tt _ σ' H' G' _ vs'.gh en' fun H2 G2 v2 => ?_
  cases he : entF t'.last with
  | none =>
    show (if false = true then _ else _)
    rw [if_neg Bool.false_ne_true]
    exact q H2 G2 m' t' (vs'.trans (Vs.of v2)) (co'.mono v2) hrun' he
  | some c =>
    show (if true = true then _ else _)
    rw [if_pos rfl]
    obtain ⟨lv, i, ei, tok, m2, hm2, hrun2⟩ := ok.go m' t' c hrun' he
    rw [he] at en'
    have co2 := co'.mono v2
    have en2 := en'.mono v2.gg
    refine ⟨fun σ2 H3 => ∃ m3, m3 < m' ∧ ∃ G' t', Vs p H G H3 G' ∧ CorM K C p H3 G' t' ∧ En K G' σ2 [some (.v (.ref p.a)), some (.d (entD (entF t'.last)))] ∧ Run m3 t', fun σ2 H3 h => h, ?_⟩
    -- self.turn(self.leaving(column), column)
    refine leSs (pss_cons (ps_expr (pe_meth (X := bX P w K mg base ["self", "column"] "Corner.go" s_Corner_go f cdv A outer s H E) (pe_var (i := 0) rfl (.inl rfl)) hC.cls hmt Ft hr hbt .nil pass0 (pa_cons peW (pa_cons (pe_var (i := 1) rfl (.inl rfl)) pa_nil)))) pssW) ?_
    obtain ⟨rvs, lvv, a1, a2, a3, a4⟩ := id co2.ex
    obtain ⟨u, f1, f2⟩ := en2.get 1 _ rfl
    have f2' : Rp K G2 u (.int (c : Nat)) := f2
    cases f2'
    refine ⟨.ref p.a, slot0 en2 rfl, p.a, p.dx, _, rfl, a1, rfl, ?_⟩
    refine evC (X := bX P w K mg base ["self", "column"] "Corner.go" s_Corner_go f cdv A outer s H E) (p := p) (C := C) (t := t') (d := .int (leaveF t'.RR t'.bs c)) (y_mb1 hlv hr (by decide) hC.cls rfl (yv 0) (yv 1) ⟨t'.RR, t'.last, t'.bs, c, rfl, lv, rfl⟩) v2.gh en2 rfl co2 fun v H3 G3 v3 co3 kf r => ?_
    have r' : Rp K _ v (.int (leaveF t'.RR t'.bs c)) := r
    cases r'
    refine ⟨_, f1, ?_⟩
    rw [ei]
    refine ⟨G3, p, t', i, c, L, rfl, v3.gh, co3, tok, fun H4 G4 w4 co4 => ?_⟩
    -- column = self.entering()
    obtain ⟨y1, y2⟩ := ok.sz m2 _ hrun2
    have en4 := (en2.mono v3.gg).mono w4.gg
    refine leSs (pss_one (ps_set (i := 1) (X := bX P w K mg base ["self", "column"] "Corner.go" s_Corner_go f cdv A outer s H E) c_Corner_go.nd rfl (.inl rfl) peW rfl (.inl rfl))) (evC (X := bX P w K mg base ["self", "column"] "Corner.go" s_Corner_go f cdv A outer s H E) (p := p) (C := C) (t := turnT t' i c) (d := entD (entF (turnT t' i c).last)) (y_mb0 hen hr (by decide) hC.cls rfl (yv 0) ⟨_, _, _, rfl, y1, y2, rfl⟩) w4.gh en4 rfl co4 fun v5 H5 G5 v5x co5 kf5 r5 => ?_)
    have en5 := (en4.mono v5x.gg).set (v := v5) (c := .d (entD (entF (turnT t' i c).last))) 1 (rEnt r5)
    exact ⟨m2, hm2, G5, turnT t' i c, ((((vs'.trans (Vs.of v2)).trans (Vs.of v3)).trans w4).trans (Vs.of v5x)), co5, en5, hrun2⟩
end
end KP
set_option linter.all false
set_option maxRecDepth 100000
set_option maxHeartbeats 4000000
/-! Corner.__init__ -/
namespace KP
open PySem PySem.Spec PyProof.Rows L2 KW K68
def unitR (m i : Nat) : List Rat := (List.range m).map fun o => if o = i then 1 else 0
def initRow (m i : Nat) (r : List Rat) : List Rat := (r.map fun x => x + 1) ++ unitR m i ++ [1]
def initRR (M : Mx) : List (List Rat) := M.zipIdx.map fun p => initRow M.length p.2 p.1
def initT (M : Mx) (n : Nat) : Tb := ⟨initRR M, List.replicate n (-1) ++ List.replicate (M.length + 1) 0, (List.range M.length).map fun j => n + j⟩
/-- all but a stays -/
structure V1 (a : Addr) (H G H2 G2 : Hp) : Prop where
  hh : ∀ x o, x ≠ a → H x = some o → H2 x = some o
  gg : Ex G G2
  gh : Ex G2 H2
  nw : ∀ x o, H x = some o → G x = none → G2 x = none
def spInit (K : PySem.W.Frag) (C : Addr) : Sp := fun vs H Q _ => ∃ (G : Hp) (a dx : Addr) (u : V) (M : Mx) (n : Nat), vs = [.ref a, u] ∧ Ex G H ∧ G a = none ∧ H a = some (.ins C dx []) ∧ Rp K G u (matD M) ∧ 1 ≤ M.length ∧ M.length ≤ 100 ∧ 1 ≤ n ∧ n ≤ 100 ∧ (∀ r ∈ M, r.length = n ∧ ∀ q ∈ r, Sm q) ∧
  ∀ H2 G2 (p : Pl), p.a = a → p.dx = dx → H p.r = none → H p.b = none → V1 a H G H2 G2 → CorM K C p H2 G2 (initT M n) → Q .non H2
theorem initRR_at {M : Mx} {i : Nat} {r : List Rat} (h : M[i]? = some r) : (initRR M)[i]? = some (initRow M.length i r) := by
  unfold initRR
  rw [List.getElem?_map, List.getElem?_zipIdx, h]
  simp
section
variable {P : Program} {w : World} {K : PySem.W.Frag} {mg : Str → Option Value} {base : Heap}
theorem ok_init (B : Bl mg) {C : Addr} (hC : Cor K C) (h : HasM K C "__init__" "Corner.__init__" s_Corner_init ["self", "matrix"]) (hn : GC K mg "NOTHING" (frD 0)) (hw : GC K mg "WHOLE" (frD 1)) (hpl : Cb P w K mg base 3 "plus" R_plus) (hmi : Cb P w K mg base 3 "minus" R_minus) : Mx2 P w K mg base 4 C "__init__" (spInit K C) := by
  obtain ⟨f, fd, hm, F, hb⟩ := h.ex
  refine ⟨f, fd, _, F.ok (k := 3) c_Corner_init (fun vs H Q E h => ?_) (fun cdv A outer s H vs Q E hr h => ?_), hm, hb⟩
  · obtain ⟨G, a, dx, u, M, n, rfl, _⟩ := h
    rfl
  obtain ⟨G, a, dx, u, M, n, rfl, eg, ga, ha, ru, m1, m100, n1, n100, hM, q⟩ := h
  refine ⟨_, pssW, ?_⟩
  have en : En K G (L2.start ["self", "matrix", "many", "wide", "place", "row", "own", "other", "one"] [.ref a, u]) (stD ["self", "matrix", "many", "wide", "place", "row", "own", "other", "one"] [.v (.ref a), .d (matD M)]) := start_en (.cons rfl (.cons ru .nil))
  obtain ⟨r0, er0⟩ : ∃ r, M[0]? = some r := ⟨_, List.getElem?_eq_getElem (show 0 < M.length by omega)⟩
  have hr0 : r0.length = n := (hM r0 (List.mem_of_getElem? er0)).1
  have at0 : atI (M.map rowD) 0 = some (rowD r0) := atI_nat (j := 0) (by rw [List.getElem?_map, er0]; rfl)
  have smI : ∀ q : Rat, q = 0 ∨ q = 1 → Sm q := fun q h => by rcases h with h | h <;> rw [h]; exact sm0; exact sm1
  -- many, wide
  refine leSs (pss_cons psW pssW) (run1 (s_asg (X := bX P w K mg base ["self", "matrix", "many", "wide", "place", "row", "own", "other", "one"] "Corner.__init__" s_Corner_init f cdv A outer s H E) (P := { nx := fun δ' => δ' = [some (.v (.ref a)), some (.d (matD M)), some (.d (.int (M.length : Nat))), some (.d (.int (n : Nat))), none, none, none, none, none], rt := fun _ => False }) (d := .tuple [.int (M.length : Nat), .int (n : Nat)]) (y_conv (y_tup2 (y_b1 (c_lenT (ds := M.map rowD)) B.len (yv 1)) (y_b1 (c_lenT (ds := frs r0)) B.len (y_ix (x_tup (ds := M.map rowD) at0) (yv 1) y_int))) (by rw [List.length_map, frs_len, hr0])) (g_tup (ds := [.int (M.length : Nat), .int (n : Nat)]) rfl (gs_cons (g_name (i := 2) c_Corner_init.nd rfl (.inl rfl)) (gs_cons (g_name (i := 3) c_Corner_init.nd rfl (.inr rfl)) gs_nil))) rfl) eg en ⟨fun σ1 H1 G1 δ1 v1 e1 hδ => ?_, fun _ _ _ _ _ _ z => z.elim, fun _ _ _ _ _ _ z => z.elim, fun _ _ _ _ _ _ z => z.elim⟩)
  subst hδ
  have ha1 := v1.hh _ _ ha
  have ga1 := v1.nw _ _ ha ga
  -- self.rows = []
  refine leSs (pss_cons (ps_fld (X := bX P w K mg base ["self", "matrix", "many", "wide", "place", "row", "own", "other", "one"] "Corner.__init__" s_Corner_init f cdv A outer s H E) (pe_var (i := 0) rfl (.inl rfl)) (pe_lst pa_nil) rfl) pssW) ⟨Nat.zero_le _, fun r hr' => ?_⟩
  have s0 : σ1[0]? = some (some (.ref a)) := by
    obtain ⟨v, e1, e2⟩ := e1.get 0 _ rfl
    have e2' : v = V.ref a := e2
    rw [e1, e2']
  have nar : a ≠ r := ne_of_none ha1 hr'
  refine ⟨.ref a, s0, a, C, dx, [], rfl, by rw [upd_ne nar]; exact ha1, hC.cls, hC.rows, by decide, ?_⟩
  have gr1 : G1 r = none := v1.gh.back hr'
  have hH3a : upd (upd H1 r (.lst [])) a (.ins C dx (putF "rows" (.ref r) [])) a = some (.ins C dx [("rows", .ref r)]) := upd_same
  have hH3r : upd (upd H1 r (.lst [])) a (.ins C dx (putF "rows" (.ref r) [])) r = some (.lst []) := by rw [upd_ne (Ne.symm nar)]; exact upd_same
  have w3 : V1 a H G (upd (upd H1 r (.lst [])) a (.ins C dx (putF "rows" (.ref r) []))) G1 := by
    refine ⟨fun x o n h => ?_, v1.gg, fun x o h => ?_, v1.nw⟩
    · have hx := v1.hh x o h
      rw [upd_ne n, upd_ne (ne_of_none hx hr')]
      exact hx
    · rw [upd_ne (ne_of_none h ga1), upd_ne (ne_of_none h gr1)]
      exact v1.gh x o h
  have hrn : H r = none := by
    cases e : H r with
    | none => rfl
    | some o => rw [v1.hh r o e] at hr'; cases hr'
  revert hH3a hH3r w3
  generalize upd (upd H1 r (.lst [])) a (.ins C dx (putF "rows" (.ref r) [])) = H3
  intro hH3a hH3r w3
  -- the rows
  have idx : ∀ i, i < M.length → ∃ row, M[i]? = some row ∧ row.length = n ∧ ∀ q ∈ row, Sm q := fun i hi => ⟨M[i], List.getElem?_eq_getElem hi, hM _ (List.getElem_mem hi)⟩
  refine leSs (pss_cons psW pssW) (for_run (X := bX P w K mg base ["self", "matrix", "many", "wide", "place", "row", "own", "other", "one"] "Corner.__init__" s_Corner_init f cdv A outer s H E) (g := gTup K 2 (gCons (gName 4) (gCons (gName 5) gNil))) (δ := [some (.v (.ref a)), some (.d (matD M)), some (.d (.int (M.length : Nat))), some (.d (.int (n : Nat))), none, none, none, none, none]) (ds := enumD (M.map rowD))
    (fun i σ' H' G' => V1 a H G H' G' ∧ H r = none ∧ H' a = some (.ins C dx [("rows", .ref r)]) ∧ G' a = none ∧ G' r = none ∧ σ'[0]? = some (some (.ref a)) ∧ (∃ o1 o2 o3, En K G' σ' [some (.v (.ref a)), some (.d (matD M)), some (.d (.int (M.length : Nat))), some (.d (.int (n : Nat))), o1, o2, o3, none, none]) ∧ ∃ rvs, H' r = some (.lst rvs) ∧ rvs.length = i ∧ RpAll K G' rvs (((initRR M).take i).map lrowD))
    (i_enumT (ds := M.map rowD) rfl B.enumerate (yv 1)) (pg_tup rfl (pgs_cons (pg_name (i := 4) c_Corner_init.nd rfl (.inr rfl)) (pgs_cons (pg_name (i := 5) c_Corner_init.nd rfl (.inl rfl)) pgs_nil))) PassesOwn.never rfl w3.gh e1 (fun H4 G4 v4 => ?_) (fun i σ' H' G' h => h.1.gh) (fun i d σ' H' G' hd' hI v H4 G4 v4 r4 N hN => ?_) (fun σ' H' G' hI => ?_))
  · have w4 : V1 a H G H4 G4 := ⟨fun x o n h => v4.hh x o (w3.hh x o n h), w3.gg.trans v4.gg, v4.gh, fun x o h n => by
      by_cases z : x = a
      · rw [z]; exact v4.nw a _ hH3a ga1
      · exact v4.nw x o (w3.hh x o z h) (w3.nw x o h n)⟩
    exact ⟨w4, hrn, v4.hh _ _ hH3a, v4.nw _ _ hH3a ga1, v4.nw _ _ hH3r gr1, s0, ⟨none, none, none, e1.mono v4.gg⟩, [], v4.hh _ _ hH3r, rfl, by rw [List.take_zero]; exact .nil⟩
  · obtain ⟨w', _, ha', ga', gr', s0', ⟨o1, o2, o3, en'⟩, rvs, hr'', lr, rr⟩ := hI
    obtain ⟨e, he, rfl⟩ := enumD_at hd'
    obtain ⟨row, hrow, rfl⟩ := mat_at he
    obtain ⟨rlen, rsm⟩ := hM row (List.mem_of_getElem? hrow)
    have il : i < M.length := (List.getElem?_eq_some_iff.mp hrow).1
    cases r4 with
    | tup ht rr4 =>
      cases rr4 with
      | cons r5 rr4 =>
        cases rr4 with
        | cons r6 rr4 =>
          cases rr4
          have e5 := ((en'.mono v4.gg).set (c := .d (.int (i : Nat))) 4 r5).set (c := .d (rowD row)) 5 r6
          refine ⟨_, _, rfl, ex_t v4.gh ht, rfl, _, _, rfl, _, _, rfl, rfl, ?_⟩
          -- own
          refine leSs (pss_cons psW pssW) (run1 (s_lcN (X := bX P w K mg base ["self", "matrix", "many", "wide", "place", "row", "own", "other", "one"] "Corner.__init__" s_Corner_init f cdv A outer s H E) (P := { nx := fun δ' => δ' = [some (.v (.ref a)), some (.d (matD M)), some (.d (.int (M.length : Nat))), some (.d (.int (n : Nat))), some (.d (.int (i : Nat))), some (.d (rowD row)), some (.d (.list (frs (unitR M.length i)))), none, none], rt := fun _ => False }) (rs := frs (unitR M.length i)) c_Corner_init.nd 6 7 (i_rangeN (n := M.length) rfl rfl B.range (yv 2) (by omega)) b_Corner_init_0 (by rw [frs_len, rangeD_len]; unfold unitR; rw [List.length_map, List.length_range]) (fun j d r hd'' hr3 s H0 C' cl fp => ?_) (by rw [rangeD_len]; omega) rfl) v4.gh e5 ⟨fun σ6 H6 G6 δ6 v6 e6 hδ => ?_, fun _ _ _ _ _ _ z => z.elim, fun _ _ _ _ _ _ z => z.elim, fun _ _ _ _ _ _ z => z.elim⟩)
          · obtain ⟨hj, rfl⟩ := rangeD_at hd''
            obtain ⟨q, hq, rfl⟩ := frs_at hr3
            unfold unitR at hq
            rw [List.getElem?_map, List.getElem?_range hj] at hq
            cases hq
            refine y_if (t_cmp o_eqI (yv 7) (yv 4) rfl) (fun hk => ?_) (fun hk => ?_)
            · have : j = i := by have := of_decide_eq_true hk; omega
              exact y_conv (y_gc hw) (by show frD 1 = frD (if j = i then 1 else 0); rw [if_pos this])
            · have : j ≠ i := fun z => by have := of_decide_eq_false hk; omega
              exact y_conv (y_gc hn) (by show frD 0 = frD (if j = i then 1 else 0); rw [if_neg this])
          · subst hδ
            have v46 := v4.trans v6
            have ha6 := v46.hh _ _ ha'
            have hr6 := v46.hh _ _ hr''
            have ga6 := v46.nw _ _ ha' ga'
            have gr6 := v46.nw _ _ hr'' gr'
            have s06 : σ6[0]? = some (some (.ref a)) := by
              obtain ⟨v, e1, e2⟩ := e6.get 0 _ rfl
              have e2' : v = V.ref a := e2
              rw [e1, e2']
            refine leSs (pss_one (ps_expr (pe_bm (X := bX P w K mg base ["self", "matrix", "many", "wide", "place", "row", "own", "other", "one"] "Corner.__init__" s_Corner_init f cdv A outer s H E) PySem.F.plainAttrs_list PySem.F.slot_list_append PySem.F.type_list_append mt_append (pe_fld (pe_var (i := 0) rfl (.inl rfl)) rfl) (pa_cons peW pa_nil)))) ⟨.ref a, s06, a, C, dx, _, .ref r, rfl, ha6, hC.cls, hC.rows, rfl, .inl ⟨rfl, _, .inl (.inl hr6)⟩, ?_⟩
            have key : Ey (bX P w K mg base ["self", "matrix", "many", "wide", "place", "row", "own", "other", "one"] "Corner.__init__" s_Corner_init f cdv A outer s H E) (.BinOp (.BinOp (.ListComp (.Call (.Name "plus" ⟨85, 30, 85, 34⟩) [.Name "one" ⟨85, 35, 85, 38⟩, .Name "WHOLE" ⟨85, 40, 85, 45⟩] [] ⟨85, 30, 85, 46⟩) [⟨.Name "one" ⟨85, 51, 85, 54⟩, .Name "row" ⟨85, 58, 85, 61⟩, [], 0⟩] z_Corner_init_1 ⟨85, 29, 85, 62⟩) .Add (.Name "own" ⟨85, 65, 85, 68⟩) ⟨85, 29, 85, 68⟩) .Add (.List [.Name "WHOLE" ⟨85, 72, 85, 77⟩] ⟨85, 71, 85, 78⟩) ⟨85, 29, 85, 78⟩) [some (.v (.ref a)), some (.d (matD M)), some (.d (.int (M.length : Nat))), some (.d (.int (n : Nat))), some (.d (.int (i : Nat))), some (.d (rowD row)), some (.d (.list (frs (unitR M.length i)))), none, none] (.d (lrowD (initRow M.length i row))) := by
              have l1 : (frs (row.map fun x => x + 1)).length = n := by rw [frs_len, List.length_map, rlen]
              have l2 : (frs (unitR M.length i)).length = M.length := by rw [frs_len]; unfold unitR; rw [List.length_map, List.length_range]
              refine y_conv (y_op (o_catL (es := [frD 1]) ?_) (y_op (o_catL (ds := frs (row.map fun x => x + 1)) (es := frs (unitR M.length i)) (by rw [l1, l2]; omega)) (y_lcN (rs := frs (row.map fun x => x + 1)) c_Corner_init.nd 8 (i_tup (ds := frs row) (yv 5)) b_Corner_init_1 (by rw [frs_len, frs_len, List.length_map]) (fun j d r hd'' hr3 s H0 C' cl fp => ?_) (by rw [frs_len, rlen]; omega)) (yv 6)) (y_lst1 (y_gc hw))) ?_
              · rw [List.length_append, l1, l2]
                show n + M.length + 1 ≤ 1000
                omega
              · obtain ⟨x, hx, rfl⟩ := frs_at hd''
                obtain ⟨q, hq, rfl⟩ := frs_at hr3
                rw [List.getElem?_map, hx] at hq
                cases hq
                exact y_cb2 hpl hr (by decide) (yv 8) (y_gc hw) ⟨x, 1, rfl, .inl ⟨rsm x (List.mem_of_getElem? hx), sm1⟩, True.intro, rfl⟩
              · unfold lrowD initRow frs
                rw [List.map_append, List.map_append]
                rfl
            refine key σ6 H6 G6 _ v6.gh e6 fun u7 H7 G7 v7 r7 => ?_
            have v47 := v46.trans v7
            have ha7 := v7.hh _ _ ha6
            have hr7 := v7.hh _ _ hr6
            have ga7 := v7.nw _ _ ha6 ga6
            have gr7 := v7.nw _ _ hr6 gr6
            refine ⟨r, rvs, u7, rfl, rfl, hr7, Nat.lt_of_le_of_lt (show rvs.length ≤ 1000 by omega) (by decide), ?_⟩
            refine hN σ6 _ G7 (v6.gg.trans v7.gg) ⟨⟨fun x o n h => ?_, w'.gg.trans v47.gg, fun x o h => ?_, fun x o h n => ?_⟩, hrn, ?_, ga7, gr7, s06, ⟨_, _, _, e6.mono v7.gg⟩, rvs ++ [u7], upd_same, by rw [List.length_append, lr]; rfl, ?_⟩
            · rw [upd_ne (ne_of_none h hrn)]
              exact v47.hh x o (w'.hh x o n h)
            · rw [upd_ne (ne_of_none h gr7)]
              exact v47.gh x o h
            · by_cases z : x = a
              · rw [z]; exact ga7
              · exact v47.nw x o (w'.hh x o z h) (w'.nw x o h n)
            · rw [upd_ne nar]; exact ha7
            · have e8 := initRR_at hrow
              rw [← List.take_append_getElem (List.getElem?_eq_some_iff.mp e8).1, (List.getElem?_eq_some_iff.mp e8).2, List.map_append]
              exact (rr.mono v47.gg).append (.cons r7 .nil)
  · obtain ⟨w', _, ha', ga', gr', s0', ⟨o1, o2, o3, en'⟩, rvs, hr'', lr, rr⟩ := hI
    have lenR : (initRR M).length = M.length := by unfold initRR; rw [List.length_map, List.length_zipIdx]
    have edl : (enumD (M.map rowD)).length = M.length := by rw [enumD_len, List.length_map]
    rw [edl] at lr rr
    rw [List.take_of_length_le (by rw [lenR]; exact Nat.le_refl _)] at rr
    -- self.last
    refine leSs (pss_cons (ps_fld (X := bX P w K mg base ["self", "matrix", "many", "wide", "place", "row", "own", "other", "one"] "Corner.__init__" s_Corner_init f cdv A outer s H E) (pe_var (i := 0) rfl (.inl rfl)) peW rfl) pssW) ?_
    have rep1 : ∀ (k : Nat) (x : Rat), (List.replicate k [frD x]).flatten = frs (List.replicate k x) := fun k x => by
      unfold frs
      rw [List.map_replicate]
      induction k with
      | zero => rfl
      | succ k ih => rw [List.replicate_succ, List.flatten_cons, ih, List.replicate_succ]; rfl
    have key : Ey (bX P w K mg base ["self", "matrix", "many", "wide", "place", "row", "own", "other", "one"] "Corner.__init__" s_Corner_init f cdv A outer s H E) (.BinOp (.BinOp (.List [.Call (.Name "minus" ⟨86, 21, 86, 26⟩) [.Name "NOTHING" ⟨86, 27, 86, 34⟩, .Name "WHOLE" ⟨86, 36, 86, 41⟩] [] ⟨86, 21, 86, 42⟩] ⟨86, 20, 86, 43⟩) .Mult (.Name "wide" ⟨86, 46, 86, 50⟩) ⟨86, 20, 86, 50⟩) .Add (.BinOp (.List [.Name "NOTHING" ⟨86, 54, 86, 61⟩] ⟨86, 53, 86, 62⟩) .Mult (.BinOp (.Name "many" ⟨86, 66, 86, 70⟩) .Add (.Constant (.int 1) 0 ⟨86, 73, 86, 74⟩) ⟨86, 66, 86, 74⟩) ⟨86, 53, 86, 75⟩) ⟨86, 20, 86, 75⟩) [some (.v (.ref a)), some (.d (matD M)), some (.d (.int (M.length : Nat))), some (.d (.int (n : Nat))), o1, o2, o3, none, none] (.d (.list (frs (initT M n).last))) := by
      refine y_conv (y_op (o_catL ?_) (y_op (o_repL (ds := [frD (-1)]) ?_ (by show 1 ≤ 1000; decide)) (y_lst1 (y_cb2 hmi hr (by decide) (y_gc hn) (y_gc hw) ⟨0, 1, rfl, .inl ⟨sm0, sm1⟩, True.intro, (by show frD (-1) = frD (0 - 1); rw [show (0 - 1 : Rat) = -1 by grind])⟩)) (yv 3)) (y_op (o_repL (ds := [frD 0]) ?_ (by show 1 ≤ 1000; decide)) (y_lst1 (y_gc hn)) (y_op o_add (yv 2) y_int))) ?_
      · rw [rep1, rep1, frs_len, frs_len, List.length_replicate, List.length_replicate]
        omega
      · omega
      · omega
      · rw [rep1, rep1]
        show PyData.list (frs (List.replicate n (-1)) ++ frs (List.replicate ((M.length : Int) + 1).toNat 0)) = PyData.list (frs (List.replicate n (-1) ++ List.replicate (M.length + 1) 0))
        rw [show ((M.length : Int) + 1).toNat = M.length + 1 by omega]
        unfold frs
        rw [List.map_append]
    refine key σ' H' G' _ w'.gh en' fun lv H8 G8 v8 r8 => ?_
    have ha8 := v8.hh _ _ ha'
    have hr8 := v8.hh _ _ hr''
    have ga8 := v8.nw _ _ ha' ga'
    have gr8 := v8.nw _ _ hr'' gr'
    refine ⟨.ref a, s0', a, C, dx, _, rfl, ha8, hC.cls, hC.last, by show 1 < 1000; decide, ?_⟩
    -- self.base
    have hA9 : upd H8 a (.ins C dx (putF "last" lv [("rows", .ref r)])) a = some (.ins C dx [("rows", .ref r), ("last", lv)]) := upd_same
    have hR9 : upd H8 a (.ins C dx (putF "last" lv [("rows", .ref r)])) r = some (.lst rvs) := by rw [upd_ne (Ne.symm nar)]; exact hr8
    have gh9 : Ex G8 (upd H8 a (.ins C dx (putF "last" lv [("rows", .ref r)]))) := fun x o h => by
      rw [upd_ne (ne_of_none h ga8)]
      exact v8.gh x o h
    have w9 : V1 a H G (upd H8 a (.ins C dx (putF "last" lv [("rows", .ref r)]))) G8 := ⟨fun x o n h => by rw [upd_ne n]; exact v8.hh x o (w'.hh x o n h), w'.gg.trans v8.gg, gh9, fun x o h n => by
      by_cases z : x = a
      · rw [z]; exact ga8
      · exact v8.nw x o (w'.hh x o z h) (w'.nw x o h n)⟩
    revert hA9 hR9 gh9 w9
    generalize upd H8 a (.ins C dx (putF "last" lv [("rows", .ref r)])) = H9
    intro hA9 hR9 gh9 w9
    have en9 := en'.mono v8.gg
    obtain ⟨wi, hwi, hwz⟩ := i_rangeN (X := bX P w K mg base ["self", "matrix", "many", "wide", "place", "row", "own", "other", "one"] "Corner.__init__" s_Corner_init f cdv A outer s H E) (δ := [some (.v (.ref a)), some (.d (matD M)), some (.d (.int (M.length : Nat))), some (.d (.int (n : Nat))), o1, o2, o3, none, none]) (tg := .Name "place" ⟨87, 38, 87, 43⟩) (p := ⟨87, 47, 87, 52⟩) (pos := ⟨87, 47, 87, 58⟩) (n := M.length) rfl rfl B.range (yv (pos := ⟨87, 53, 87, 57⟩) 2) (by omega)
    refine leSs (pss_one (ps_fld (X := bX P w K mg base ["self", "matrix", "many", "wide", "place", "row", "own", "other", "one"] "Corner.__init__" s_Corner_init f cdv A outer s H E) (pe_var (i := 0) rfl (.inl rfl)) (pe_lc (te := KW.tB (bX P w K mg base ["self", "matrix", "many", "wide", "place", "row", "own", "other", "one"] "Corner.__init__" s_Corner_init f cdv A outer s H E) z_Corner_init_2 (.BinOp (.Name "wide" ⟨87, 21, 87, 25⟩) .Add (.Name "place" ⟨87, 28, 87, 33⟩) ⟨87, 21, 87, 33⟩)) (g := gName 4) (tt := tYes) rfl c_Corner_init.nd hwi b_Corner_init_2 (fun s H C cl fp => pg_name c_Corner_init.nd rfl (.inl rfl) (.inr rfl)) (fun s H C cl fp => pts_nil) (fun s H0 C cl fp => ⟨fun pins s2 σ H Q I h => h s H0 C cl fp pins s2 I⟩)) rfl)) ?_
    have lcr := lc_run (X := bX P w K mg base ["self", "matrix", "many", "wide", "place", "row", "own", "other", "one"] "Corner.__init__" s_Corner_init f cdv A outer s H E) (ifs := []) (scope := z_Corner_init_2) (own := [4]) (elt := .BinOp (.Name "wide" ⟨87, 21, 87, 25⟩) .Add (.Name "place" ⟨87, 28, 87, 33⟩) ⟨87, 21, 87, 33⟩) (g := gName 4) (tt := tYes) (wi := wi) (δ := [some (.v (.ref a)), some (.d (matD M)), some (.d (.int (M.length : Nat))), some (.d (.int (n : Nat))), o1, o2, o3, none, none]) (ds := rangeD 0 M.length) (((List.range M.length).map fun j => PyData.int ((n + j : Nat) : Int)).map some) (by rw [List.length_map, List.length_map, List.length_range, rangeD_len]) (by rw [rangeD_len]; omega) hwz (fun j d o hd'' ho => by
      obtain ⟨y, hy, rfl⟩ := some_at ho
      obtain ⟨hj, rfl⟩ := rangeD_at hd''
      rw [List.getElem?_map, List.getElem?_range hj] at hy
      cases hy
      refine turns_name (by exact Nat.le_of_ble_eq_true rfl) fun s H0 C' cl fp => y_conv (y_op o_add (yv (pos := ⟨87, 21, 87, 25⟩) 3) (yv (pos := ⟨87, 28, 87, 33⟩) 4)) ?_
      show PyData.int ((n : Int) + ((0 : Int) + (j : Int))) = PyData.int ((n + j : Nat) : Int)
      rw [Int.zero_add, Int.natCast_add]) σ' H9 G8
    refine lcr _ gh9 en9 fun b H10 G10 v10 hb10 gb10 ⟨vs, hvs, rvs10⟩ => ?_
    rw [some_map] at rvs10
    have evs : vs = (initT M n).bs.map fun x => V.int (x : Nat) := by
      have e : ((List.range M.length).map fun j => PyData.int ((n + j : Nat) : Int)) = intsD (initT M n).bs := by
        show _ = intsD ((List.range M.length).map fun j => n + j)
        unfold intsD
        rw [List.map_map]
        rfl
      rw [e] at rvs10
      exact ints_of rvs10
    subst evs
    have ha10 := v10.hh _ _ hA9
    have hr10 := v10.hh _ _ hR9
    have ga10 := v10.nw _ _ hA9 ga8
    have gr10 := v10.nw _ _ hR9 gr8
    have nab : a ≠ b := ne_of_none hA9 hb10
    have nrb : r ≠ b := ne_of_none hR9 hb10
    refine ⟨.ref a, s0', a, C, dx, _, rfl, ha10, hC.cls, hC.base, by show 2 < 1000; decide, ?_⟩
    have w10 : V1 a H G (upd H10 a (.ins C dx (putF "base" (.ref b) [("rows", .ref r), ("last", lv)]))) G10 := ⟨fun x o n h => by rw [upd_ne n]; exact v10.hh x o (w9.hh x o n h), w9.gg.trans v10.gg, fun x o h => by rw [upd_ne (ne_of_none h ga10)]; exact v10.gh x o h, fun x o h n => by
      by_cases z : x = a
      · rw [z]; exact ga10
      · exact v10.nw x o (w9.hh x o z h) (w9.nw x o h n)⟩
    have hbn : H b = none := by
      cases e : H b with
      | none => rfl
      | some o => rw [w9.hh b o (Ne.symm nab) e] at hb10; cases hb10
    refine q _ G10 ⟨a, dx, r, b⟩ rfl rfl hrn hbn w10 ⟨⟨rvs, lv, upd_same, ?_, (rr.mono v8.gg).mono v10.gg, ?_⟩, ?_, fun x hx => ?_, nar, nab, nrb⟩
    · show upd H10 a _ r = _
      rw [upd_ne (Ne.symm nar)]; exact hr10
    · exact Rp.mono v10.gg r8
    · show upd H10 a _ b = _
      rw [upd_ne (Ne.symm nab)]; exact hvs
    · rcases hx with z | z | z
      · rw [z]; exact ga10
      · rw [z]; exact gr10
      · rw [z]; exact gb10
end
end KP
set_option linter.all false
set_option maxRecDepth 100000
set_option maxHeartbeats 4000000
/-! solved -/
namespace KP
open PySem PySem.Spec PyProof.Rows L2 KW K68
def colsL (t : Tb) (n : Nat) : List Rat := (List.range n).map (colsF t.RR t.bs)
def rowsL (t : Tb) (n m : Nat) : List Rat := (t.last.drop n).take m
def wholeQ (t : Tb) (n : Nat) : Rat := (colsL t n).sum
structure Told where
  v : Rat
  rows : List Rat
  cols : List Rat
def toldD (x : Told) : PyData := .tuple [frD x.v, .tuple (frs x.rows), .tuple (frs x.cols)]
def solT (t : Tb) (n m : Nat) : Told := ⟨1 / wholeQ t n - 1, (rowsL t n m).map fun x => x / wholeQ t n, (colsL t n).map fun x => x / wholeQ t n⟩
structure SolOk (t : Tb) (n m : Nat) : Prop where
  nd : t.bs.Nodup
  ne : ∀ r ∈ t.RR, r ≠ []
  sz : t.RR.length ≤ 100
  ll : n + m ≤ t.last.length
  l1 : t.last.length ≤ 1000
  sum : SumOk (colsL t n)
  nz : wholeQ t n ≠ 0
  sw : Sm (1 / wholeQ t n)
  sl : ∀ q ∈ t.last, Sm q
def R_solved (cs : List Cl) (d : PyData) : Prop := ∃ (M : Mx) (n L m0 : Nat) (Run : Nat → Tb → Prop) (tf : Tb), cs = [.d (matD M)] ∧ 1 ≤ M.length ∧ M.length ≤ 100 ∧ 1 ≤ n ∧ n ≤ 100 ∧ (∀ r ∈ M, r.length = n ∧ ∀ q ∈ r, Sm q) ∧ RunOk L Run ∧ Run m0 (initT M n) ∧ (∀ m t, Run m t → entF t.last = none → t = tf) ∧ SolOk tf n M.length ∧ d = toldD (solT tf n M.length)
theorem cut_mid (l : List Rat) (n m : Nat) (h : n + m ≤ l.length) : KW.cutD (frs l) (some (n : Int)) (some ((n : Int) + (m : Int))) = frs ((l.drop n).take m) := by
  unfold KW.cutD
  have e : ((n : Int) + (m : Int)) = ((n + m : Nat) : Int) := by omega
  rw [e, HT.sIx_nat, HT.sIx_nat, frs_len, show min n l.length = n by omega, show min (n + m) l.length = n + m by omega, show n + m - n = m by omega]
  unfold frs
  rw [List.map_take, List.map_drop]
section
variable {P : Program} {w : World} {K : PySem.W.Frag} {mg : Str → Option Value} {base : Heap}
theorem ok_solved (B : Bl mg) {C : Addr} (hC : Cor K C) (hcn : mg "Corner" = some (.ref C)) (h : Has K mg "solved" s_solved ["matrix"]) (hw : GC K mg "WHOLE" (frD 1)) (hin : Mx2 P w K mg base 4 C "__init__" (spInit K C)) (hgo : Mx2 P w K mg base 6 C "go" (spGo K C)) (hco : Mb P w K mg base 1 C "columns" (R_columns C)) (hsu : Cb P w K mg base 4 "sum_of" R_sum) (hmi : Cb P w K mg base 3 "minus" R_minus) (hdi : Cb P w K mg base 3 "divided" R_divided) : Cb P w K mg base 7 "solved" R_solved := by
  obtain ⟨fi, fdi, psi, Fi, hmi', hbi⟩ := hin.ex
  obtain ⟨fg, fdg, psg, Fg, hmg, hbg⟩ := hgo.ex
  refine Cb.of (k := 6) h c_solved (fun cs d h => by obtain ⟨M, _, _, _, _, _, rfl, _⟩ := h; rfl) fun f cdv A outer s H0' E hr cs d h => ?_
  obtain ⟨M, n, L, m0, Run, tf, rfl, m1, m100, n1, n100, hM, ok, hrun, hend, sok, rfl⟩ := h
  intro σ H G D eg en mt
  obtain ⟨r0, er0⟩ : ∃ r, M[0]? = some r := ⟨_, List.getElem?_eq_getElem (show 0 < M.length by omega)⟩
  have hr0 : r0.length = n := (hM r0 (List.mem_of_getElem? er0)).1
  have at0 : atI (M.map rowD) 0 = some (rowD r0) := atI_nat (j := 0) (by rw [List.getElem?_map, er0]; rfl)
  -- many, wide
  refine leSs (pss_cons psW pssW) (run1 (s_par (X := bX P w K mg base ["matrix", "many", "wide", "corner", "columns", "rows", "whole", "value", "one"] "solved" s_solved f cdv A outer s H0' E) (P := { nx := fun δ' => δ' = [some (.d (matD M)), some (.d (.int (M.length : Nat))), some (.d (.int (n : Nat))), none, none, none, none, none, none], rt := fun _ => False }) (i := 1) (j := 2) (c1 := .d (.int (M.length : Nat))) (c2 := .d (.int (n : Nat))) rfl c_solved.nd rfl rfl (by decide) rfl rfl (a_cons (y_conv (y_b1 (c_lenT (ds := M.map rowD)) B.len (yv 0)) (by rw [List.length_map])) (a_cons (y_conv (y_b1 (c_lenT (ds := frs r0)) B.len (y_ix (x_tup (ds := M.map rowD) at0) (yv 0) y_int)) (by rw [frs_len, hr0])) a_nil)) rfl) eg en ⟨fun σ1 H1 G1 δ1 v1 e1 hδ => ?_, fun _ _ _ _ _ _ z => z.elim, fun _ _ _ _ _ _ z => z.elim, fun _ _ _ _ _ _ z => z.elim⟩)
  subst hδ
  -- corner = Corner(matrix)
  refine leSs (pss_cons (ps_set (X := bX P w K mg base ["matrix", "many", "wide", "corner", "columns", "rows", "whole", "value", "one"] "solved" s_solved f cdv A outer s H0' E) (i := 3) c_solved.nd rfl (.inl rfl) (pe_make ⟨hC.makes, hmi'.at_, hmi'.fn, hC.kp⟩ Fi (hr.mono (by decide)) (by rfl) hcn hbi .nil pass0 (pa_cons peW pa_nil)) rfl (.inl rfl)) pssW) ?_
  refine yv (X := bX P w K mg base ["matrix", "many", "wide", "corner", "columns", "rows", "whole", "value", "one"] "solved" s_solved f cdv A outer s H0' E) 0 (c := .d (matD M)) rfl (.inl rfl) rfl (by decide) (by decide) σ1 H1 G1 _ v1.gh e1 fun u H2 G2 v2 ru x dx hx hdx hne => ?_
  have gx : G2 x = none := v2.gh.back hx
  have gdx : G2 dx = none := v2.gh.back hdx
  have eg2 : Ex G2 (upd (upd H2 dx (.own x)) x (.ins C dx [])) := fun y o hy => by
    rw [upd_ne (ne_of_none hy gx), upd_ne (ne_of_none hy gdx)]
    exact v2.gh y o hy
  refine ⟨G2, x, dx, u, M, n, rfl, eg2, gx, upd_same, ru, m1, m100, n1, n100, hM, fun H3 G3 p pa pdx pr pb w3 co3 => ⟨rfl, ?_⟩⟩
  have v12 := v1.trans v2
  have off : ∀ y o, H y = some o → ¬ p.on y := fun y o hy z => by
    have hy2 := v12.hh y o hy
    have hy3 : (upd (upd H2 dx (.own x)) x (.ins C dx [])) y = some o := by
      rw [upd_ne (ne_of_none hy2 hx), upd_ne (ne_of_none hy2 hdx)]
      exact hy2
    rcases z with z | z | z
    · rw [z, pa] at hy2; rw [hx] at hy2; cases hy2
    · rw [z, pr] at hy3; cases hy3
    · rw [z, pb] at hy3; cases hy3
  have vx3 : Vs p H G H3 G3 := ⟨fun y o n' hy => by
      have hy2 := v12.hh y o hy
      exact w3.hh y o (ne_of_none hy2 hx) (by rw [upd_ne (ne_of_none hy2 hx), upd_ne (ne_of_none hy2 hdx)]; exact hy2), v12.gg.trans w3.gg, w3.gh, fun y o n' hy hg => by
      have hy2 := v12.hh y o hy
      exact w3.nw y o (by rw [upd_ne (ne_of_none hy2 hx), upd_ne (ne_of_none hy2 hdx)]; exact hy2) (v12.nw y o hy hg)⟩
  have e3 : En K G3 (σ1.set 3 (some (.ref x))) [some (.d (matD M)), some (.d (.int (M.length : Nat))), some (.d (.int (n : Nat))), some (.v (.ref p.a)), none, none, none, none, none] := ((e1.mono v2.gg).mono w3.gg).set (v := .ref x) (c := .v (.ref p.a)) 3 (by rw [pa]; exact rfl)
  obtain ⟨rvs, lv, a1, a2, a3, a4⟩ := id co3.ex
  -- corner.go()
  refine leSs (pss_cons (ps_expr (pe_meth0 (X := bX P w K mg base ["matrix", "many", "wide", "corner", "columns", "rows", "whole", "value", "one"] "solved" s_solved f cdv A outer s H0' E) (pe_var (i := 3) rfl (.inl rfl)) hC.cls hmg Fg hr hbg .nil pass0)) pssW) ?_
  refine ⟨.ref p.a, ?_, p.a, p.dx, _, rfl, a1, rfl, G3, p, initT M n, L, m0, Run, rfl, w3.gh, co3, ok, hrun, fun H4 G4 m2 t2 w4 co4 hrun2 hent => ?_⟩
  · obtain ⟨v, e1', e2'⟩ := e3.get 3 _ rfl
    have e2'' : v = V.ref p.a := e2'
    rw [e1', e2'']
  have ht := hend m2 t2 hrun2 hent
  subst ht
  have vx4 := vx3.trans w4
  -- the corner is done with changing
  have vF : Vx H G H4 (ov p H4 G4) := ⟨fun y o hy => vx4.hh y o (off y o hy) hy, fun y o hy => ov_up co4 y o (vx4.gg y o hy), ov_ex w4.gh, fun y o hy hg => by
    rw [ov_off (off y o hy)]
    exact vx4.nw y o (off y o hy) hy hg⟩
  have eF : En K (ov p H4 G4) (σ1.set 3 (some (.ref x))) [some (.d (matD M)), some (.d (.int (M.length : Nat))), some (.d (.int (n : Nat))), some (tC C t2), none, none, none, none, none] := by
    have h1 := ((e3.mono w4.gg).mono (ov_up co4)).set (v := .ref p.a) (c := tC C t2) 3 (co4.inst w4.gh)
    have h2 : (σ1.set 3 (some (V.ref x))).set 3 (some (V.ref p.a)) = σ1.set 3 (some (.ref x)) := by rw [List.set_set, pa]
    rw [h2] at h1
    exact h1
  refine runs (X := bX P w K mg base ["matrix", "many", "wide", "corner", "columns", "rows", "whole", "value", "one"] "solved" s_solved f cdv A outer s H0' E) ?_ vF.gh eF (mt.mono vF)
  have lenC : (colsL t2 n).length = n := by unfold colsL; rw [List.length_map, List.length_range]
  have smC : ∀ q ∈ colsL t2 n, Sm q := sok.sum.1
  have smW : Sm (wholeQ t2 n) := by
    have := sok.sum.2 (colsL t2 n).length (Nat.le_refl _)
    rwa [List.take_length] at this
  have lenR : (rowsL t2 n M.length).length ≤ 1000 := by
    unfold rowsL
    rw [List.length_take, List.length_drop]
    have := sok.l1
    omega
  have smR : ∀ q ∈ rowsL t2 n M.length, Sm q := fun q hq => sok.sl q (List.mem_of_mem_drop (List.mem_of_mem_take hq))
  refine s_cons (s_par (i := 4) (j := 5) (c1 := .d (.list (frs (colsL t2 n)))) (c2 := .d (.list (frs (rowsL t2 n M.length)))) rfl c_solved.nd rfl rfl (by decide) rfl rfl (a_cons (y_mb1 hco hr (by decide) hC.cls rfl (yv 3) (yv 2) ⟨_, _, _, n, rfl, by omega, by have := sok.sz; omega, sok.nd, sok.ne, rfl⟩) (a_cons (y_conv (y_cutL (ds := frs t2.last) (y_fld (yv 3) hC.cls hC.last rfl) (p_some (yv 2)) (p_some (y_op o_add (yv 2) (yv 1)))) (congrArg PyData.list (cut_mid t2.last n M.length sok.ll))) a_nil)) ?_)
  refine s_cons (s_set (i := 6) c_solved.nd rfl (.inr rfl) (y_cb1 hsu hr (by decide) (yv 4) ⟨colsL t2 n, _, rfl, .lst, sok.sum, rfl⟩) ?_)
  refine s_cons (s_set (i := 7) c_solved.nd rfl (.inl rfl) (y_cb2 hmi hr (by decide) (y_cb2 hdi hr (by decide) (y_gc hw) (yv 6) ⟨1, wholeQ t2 n, rfl, .inl ⟨sm1, smW⟩, sok.nz, rfl⟩) (y_gc hw) ⟨1 / wholeQ t2 n, 1, rfl, .inl ⟨sok.sw, sm1⟩, True.intro, rfl⟩) ?_)
  refine s_one (s_ret (y_tup3 (yv 7) (y_t1 (c_tupL (ds := frs ((rowsL t2 n M.length).map fun x => x / wholeQ t2 n))) B.tuple (y_lcN (rs := frs ((rowsL t2 n M.length).map fun x => x / wholeQ t2 n)) c_solved.nd 8 (i_list (ds := frs (rowsL t2 n M.length)) (yv 5)) b_solved_0 (by rw [frs_len, frs_len, List.length_map]) (fun j d r hd'' hr3 s H0 C' cl fp => ?_) (by rw [frs_len]; omega))) (y_t1 (c_tupL (ds := frs ((colsL t2 n).map fun x => x / wholeQ t2 n))) B.tuple (y_lcN (rs := frs ((colsL t2 n).map fun x => x / wholeQ t2 n)) c_solved.nd 8 (i_list (ds := frs (colsL t2 n)) (yv 4)) b_solved_1 (by rw [frs_len, frs_len, List.length_map]) (fun j d r hd'' hr3 s H0 C' cl fp => ?_) (by rw [frs_len]; omega)))) rfl)
  · obtain ⟨x, hx, rfl⟩ := frs_at hd''
    obtain ⟨q, hq, rfl⟩ := frs_at hr3
    rw [List.getElem?_map, hx] at hq
    cases hq
    exact y_cb2 hdi hr (by decide) (yv 8) (yv 6) ⟨x, wholeQ t2 n, rfl, .inl ⟨smR x (List.mem_of_getElem? hx), smW⟩, sok.nz, rfl⟩
  · obtain ⟨x, hx, rfl⟩ := frs_at hd''
    obtain ⟨q, hq, rfl⟩ := frs_at hr3
    rw [List.getElem?_map, hx] at hq
    cases hq
    exact y_cb2 hdi hr (by decide) (yv 8) (yv 6) ⟨x, wholeQ t2 n, rfl, .inl ⟨smC x (List.mem_of_getElem? hx), smW⟩, sok.nz, rfl⟩
end
end KP
set_option linter.all false
set_option maxRecDepth 100000
set_option maxHeartbeats 4000000
/-! matrix_told, shows_matrix -/
namespace KP
open PySem PySem.Spec PyProof.Rows L2 KW K68
/-- x is what the text tells of M -/
def Tl (M : Mx) (n : Nat) (x : Told) : Prop := Mok M n ∧ ∃ (L m0 : Nat) (Run : Nat → Tb → Prop) (tf : Tb), RunOk L Run ∧ Run m0 (initT M n) ∧ (∀ m t, Run m t → entF t.last = none → t = tf) ∧ SolOk tf n M.length ∧ x = solT tf n M.length
def R_told (cs : List Cl) (d : PyData) : Prop := ∃ (M : Mx) (n : Nat) (x : Told), cs = [.d (matD M)] ∧ Tl M n x ∧ d = toldD x
def lowsL (M : Mx) (n : Nat) (rows : List Rat) : List Rat := (List.range n).map fun k => (List.zipWith (· * ·) rows (colM M k)).sum
def highsL (M : Mx) (cols : List Rat) : List Rat := M.map fun r => (List.zipWith (· * ·) cols r).sum
structure PapOk (M : Mx) (n : Nat) (x : Told) : Prop where
  mok : Mok M n
  m8 : M.length ≤ 8
  v0 : 0 ≤ x.v
  sv : Sm x.v
  rl : x.rows.length = M.length
  cl : x.cols.length = n
  rs : SumOk x.rows
  cs : SumOk x.cols
  r0 : ∀ q ∈ x.rows, 0 ≤ q
  c0 : ∀ q ∈ x.cols, 0 ≤ q
  r1 : x.rows.sum = 1
  c1 : x.cols.sum = 1
  lo : ∀ k, k < n → SumOk (List.zipWith (· * ·) x.rows (colM M k))
  hi : ∀ r ∈ M, SumOk (List.zipWith (· * ·) x.cols r)
def R_shows (cs : List Cl) (d : PyData) : Prop := ∃ (M : Mx) (n : Nat) (x : Told), cs = [.d (matD M), .d (toldD x)] ∧ PapOk M n x ∧ d = .bool (!decide (leastQ (lowsL M n x.rows) < x.v) && !decide (x.v < mostQ (highsL M x.cols)))
theorem SumOk.all {l : List Rat} (h : SumOk l) : Sm l.sum := by
  have := h.2 l.length (Nat.le_refl _)
  rwa [List.take_length] at this
theorem most_mem : ∀ {l : List Rat}, l ≠ [] → mostQ l ∈ l
  | [], h => absurd rfl h
  | x :: xs, _ => by
    rcases fold_mem hiQ_or xs x with e | e
    · show xs.foldl hiQ x ∈ _
      rw [e]; exact List.mem_cons_self
    · exact List.mem_cons_of_mem _ e
section
variable {P : Program} {w : World} {K : PySem.W.Frag} {mg : Str → Option Value} {base : Heap}
theorem ok_told (h : Has K mg "matrix_told" s_matrix_told ["matrix"]) (hc : Cb P w K mg base 5 "check_matrix" R_check) (hs : Cb P w K mg base 7 "solved" R_solved) : Cb P w K mg base 8 "matrix_told" R_told := by
  refine Cb.of (k := 7) h c_matrix_told (fun cs d h => by obtain ⟨_, _, _, rfl, _⟩ := h; rfl) fun f cdv A outer s H E hr cs d h => ?_
  obtain ⟨M, n, x, rfl, ⟨mok, L, m0, Run, tf, ok, h0, hend, sok, rfl⟩, rfl⟩ := h
  refine s_cons (s_drop (y_cb1 hc hr (by decide) (yv 0) ⟨M, n, rfl, mok, rfl⟩) ?_)
  exact s_one (s_ret (y_cb1 hs hr (by decide) (yv 0) ⟨M, n, L, m0, Run, tf, rfl, mok.m1, by have := mok.m64; omega, mok.n1, by have := mok.n64; omega, fun r hr => ⟨mok.wd r hr, fun q hq => (mok.en r hr q hq).2.2⟩, ok, h0, hend, sok, rfl⟩) rfl)
theorem ok_shows (B : Bl mg) (h : Has K mg "shows_matrix" s_shows_matrix ["matrix", "value"]) (h3 : GC K mg "THREE" (.int 3)) (hc : Cb P w K mg base 5 "check_matrix" R_check) (hf : Cb P w K mg base 2 "is_fraction" R_isfr) (hsh : Cb P w K mg base 5 "is_share" R_share) (hlo : Cb P w K mg base 2 "least_of" (R_least leastQ)) (hhi : Cb P w K mg base 2 "greatest_of" (R_least mostQ))
    (hme : Cb P w K mg base 5 "mean_of" R_mean) (hcols : Cb P w K mg base 1 "columns_of" R_cols) (hl : Cb P w K mg base 1 "is_less" R_less) : Cb P w K mg base 6 "shows_matrix" R_shows := by
  refine Cb.of (k := 5) h c_shows_matrix (fun cs d h => by obtain ⟨_, _, _, rfl, _⟩ := h; rfl) fun f cdv A outer s H E hr cs d h => ?_
  obtain ⟨M, n, x, rfl, ok, rfl⟩ := h
  have mok := ok.mok
  have m64 := mok.m64
  have n64 := mok.n64
  have m1 := mok.m1
  obtain ⟨r0, er0⟩ : ∃ r, M[0]? = some r := ⟨_, List.getElem?_eq_getElem (show 0 < M.length by omega)⟩
  have hr0 : r0.length = n := mok.wd r0 (List.mem_of_getElem? er0)
  have at0 : atI (M.map rowD) 0 = some (rowD r0) := atI_nat (j := 0) (by rw [List.getElem?_map, er0]; rfl)
  have v0 : atI [frD x.v, .tuple (frs x.rows), .tuple (frs x.cols)] 0 = some (frD x.v) := rfl
  have v1 : atI [frD x.v, .tuple (frs x.rows), .tuple (frs x.cols)] 1 = some (.tuple (frs x.rows)) := rfl
  have v2 : atI [frD x.v, .tuple (frs x.rows), .tuple (frs x.cols)] (-1) = some (.tuple (frs x.cols)) := rfl
  refine s_cons (s_drop (y_cb1 hc hr (by decide) (yv 0) ⟨M, n, rfl, mok, rfl⟩) ?_)
  refine s_cons (s_if (t_w (w_or (t_not (t_val (y_b2 (c_isi (d := toldD x) (kit1 rfl)) B.isinstance (yv 1) (y_ty rfl B.tuple (by decide +kernel))))) fun _ => w_or (t_cmp o_neI (y_b1 (c_lenT (ds := [frD x.v, .tuple (frs x.rows), .tuple (frs x.cols)])) B.len (yv 1)) (y_gc h3) rfl) fun _ => w_or1 (t_not (t_val (y_cb1 hf hr (by decide) (y_ix (x_tup v0) (yv 1) y_int) ⟨x.v, rfl, ok.v0, rfl⟩))))) (fun z => absurd z (by simp)) fun _ => s_nil ?_)
  refine s_cons (s_if (t_w (w_or (t_not (t_val (y_cb2 hsh hr (by decide) (y_ix (x_tup v1) (yv 1) y_int) (y_b1 (c_lenT (ds := M.map rowD)) B.len (yv 0)) ⟨x.rows, by rw [List.length_map, ok.rl], by rw [ok.rl]; omega, ok.rs, ok.r0, ok.r1, rfl⟩))) fun _ => w_or1 (t_not (t_val (y_cb2 hsh hr (by decide) (y_ix (x_tup v2) (yv 1) (y_neg y_int)) (y_b1 (c_lenT (ds := frs r0)) B.len (y_ix (x_tup (ds := M.map rowD) at0) (yv 0) y_int)) ⟨x.cols, by rw [frs_len, hr0, ok.cl], by rw [ok.cl]; omega, ok.cs, ok.c0, ok.c1, rfl⟩))))) (fun z => absurd z (by simp)) fun _ => s_nil ?_)
  have lol : (lowsL M n x.rows).length = n := by unfold lowsL; rw [List.length_map, List.length_range]
  have hil : (highsL M x.cols).length = M.length := by unfold highsL; rw [List.length_map]
  have lone : lowsL M n x.rows ≠ [] := fun z => by rw [z] at lol; have := mok.n1; simp at lol; omega
  have hine : highsL M x.cols ≠ [] := fun z => by rw [z] at hil; simp at hil; omega
  have lomd : ∀ q ∈ lowsL M n x.rows, Md q := fun q hq => by
    obtain ⟨k, hk, rfl⟩ := List.mem_map.mp hq
    exact (ok.lo k (List.mem_range.mp hk)).all.md
  have himd : ∀ q ∈ highsL M x.cols, Md q := fun q hq => by
    obtain ⟨r, hr', rfl⟩ := List.mem_map.mp hq
    exact (ok.hi r hr').all.md
  refine s_cons (s_set (i := 2) c_shows_matrix.nd rfl (.inl rfl) (y_cb1 hlo hr (by decide) (y_lcN (rs := frs (lowsL M n x.rows)) c_shows_matrix.nd 4 (i_list (ds := (List.range n).map fun k => rowD (colM M k)) (y_cb1 hcols hr (by decide) (yv 0) ⟨M, n, rfl, m1, ok.m8, mok.n1, by omega, mok.wd, rfl⟩)) b_shows_matrix_0 (by rw [frs_len, lol, List.length_map, List.length_range]) (fun j d r hd'' hr3 s H0 C' cl fp => ?_) (by rw [List.length_map, List.length_range]; omega)) ⟨_, rfl, lone, by rw [lol]; omega, lomd, rfl⟩) ?_)
  · rw [List.getElem?_map] at hd''
    by_cases hj : j < n
    · rw [List.getElem?_range hj] at hd''
      cases hd''
      obtain ⟨q, hq, rfl⟩ := frs_at hr3
      unfold lowsL at hq
      rw [List.getElem?_map, List.getElem?_range hj] at hq
      cases hq
      refine y_cb2 hme hr (by decide) (y_ix (x_tup v1) (yv 1) y_int) (yv 4) ⟨x.rows, colM M j, rfl, by rw [ok.rl]; omega, ok.rs.1, fun y hy => ?_, ok.lo j hj, rfl⟩
      obtain ⟨r, hr', rfl⟩ := List.mem_map.mp hy
      have hw := mok.wd r hr'
      rw [List.getD_eq_getElem?_getD, List.getElem?_eq_getElem (by omega)]
      exact (mok.en r hr' _ (List.getElem_mem (show j < r.length by omega))).2.2
    · rw [List.getElem?_eq_none (by rw [List.length_range]; omega)] at hd''
      cases hd''
  refine s_cons (s_set (i := 3) c_shows_matrix.nd rfl (.inl rfl) (y_cb1 hhi hr (by decide) (y_lcN (rs := frs (highsL M x.cols)) c_shows_matrix.nd 5 (i_tup (ds := M.map rowD) (yv 0)) b_shows_matrix_1 (by rw [frs_len, hil, List.length_map]) (fun j d r hd'' hr3 s H0 C' cl fp => ?_) (by rw [List.length_map]; omega)) ⟨_, rfl, hine, by rw [hil]; omega, himd, rfl⟩) ?_)
  · obtain ⟨row, hrow, rfl⟩ := mat_at hd''
    obtain ⟨q, hq, rfl⟩ := frs_at hr3
    unfold highsL at hq
    rw [List.getElem?_map, hrow] at hq
    cases hq
    have rm := List.mem_of_getElem? hrow
    exact y_cb2 hme hr (by decide) (y_ix (x_tup v2) (yv 1) (y_neg y_int)) (yv 5) ⟨x.cols, row, rfl, by rw [ok.cl]; omega, ok.cs.1, fun y hy => (mok.en row rm y hy).2.2, ok.hi row rm, rfl⟩
  exact s_one (s_ret (y_and (y_not (y_cb2 hl hr (by decide) (yv 2) (y_ix (x_tup v0) (yv 1) y_int) ⟨_, _, rfl, lomd _ (least_mem lone), ok.sv.md, rfl⟩)) fun _ => y_and1 (y_not (y_cb2 hl hr (by decide) (y_ix (x_tup v0) (yv 1) y_int) (yv 3) ⟨_, _, rfl, ok.sv.md, himd _ (most_mem hine), rfl⟩))) rfl)
end
end KP
set_option linter.all false
set_option maxRecDepth 100000
set_option maxHeartbeats 4000000
/-! the law's fractions -/
namespace KP
open PySem PySem.Spec PyProof.Rows L2 KW K68
/-- the laps of _law_short -/
structure Lap (t l i a b : Nat) : Prop where
  g : Nat.gcd a b = Nat.gcd t l
  z : i = 0 → a = t ∧ b = l
  p : 0 < i → b < a ∧ a * b * 2 ^ (i - 1) < 2 ^ 3980
theorem Lap.next {t l i a b : Nat} (h : Lap t l i a b) (hb : b ≠ 0) (hl : l < 2 ^ 1990) : Lap t l (i + 1) b (a % b) := by
  have hr : a % b < b := Nat.mod_lt _ (by omega)
  refine ⟨?_, fun z => by omega, fun _ => ⟨hr, ?_⟩⟩
  · rw [← h.g, Nat.gcd_comm a b, Nat.gcd_rec b a, Nat.gcd_comm]
  · rw [Nat.add_sub_cancel]
    by_cases hi : i = 0
    · obtain ⟨_, e2⟩ := h.z hi
      rw [hi, Nat.pow_zero, Nat.mul_one]
      have h1 : b * (a % b) < 2 ^ 1990 * 2 ^ 1990 := Nat.mul_lt_mul'' (by rw [e2]; exact hl) (Nat.lt_trans hr (by rw [e2]; exact hl))
      rwa [← Nat.pow_add] at h1
    · obtain ⟨h1, h2⟩ := h.p (by omega)
      have e : i = (i - 1) + 1 := by omega
      have h3 : 2 * (a % b) ≤ a := by
        have e1 := Nat.div_add_mod a b
        have e2 : 1 ≤ a / b := Nat.div_pos (by omega) (by omega)
        have e3 : b * 1 ≤ b * (a / b) := Nat.mul_le_mul_left _ e2
        omega
      have h4 : b * (a % b) * 2 ^ i ≤ a * b * 2 ^ (i - 1) := by
        rw [e, Nat.pow_succ, Nat.add_sub_cancel]
        have : b * (a % b) * (2 ^ (i - 1) * 2) = (2 * (a % b)) * b * 2 ^ (i - 1) := by
          rw [Nat.mul_comm b, Nat.mul_comm (2 ^ (i - 1)) 2, ← Nat.mul_assoc, Nat.mul_comm (a % b * b) 2, ← Nat.mul_assoc]
        rw [this]
        exact Nat.mul_le_mul_right _ (Nat.mul_le_mul_right _ h3)
      omega
theorem Lap.fin {t l a b : Nat} (h : Lap t l 4000 a b) : b = 0 := by
  obtain ⟨h1, h2⟩ := h.p (by decide)
  by_cases hb : b = 0
  · exact hb
  · have h3 : 1 ≤ a * b := Nat.mul_pos (by omega) (by omega)
    have h4 : 1 * 2 ^ (4000 - 1) ≤ a * b * 2 ^ (4000 - 1) := Nat.mul_le_mul_right _ h3
    have h5 : 2 ^ 3980 ≤ 2 ^ (4000 - 1) := Nat.pow_le_pow_right (by decide) (by decide)
    rw [Nat.one_mul] at h4
    exact absurd (Nat.lt_of_le_of_lt (Nat.le_trans h5 h4) h2) (Nat.lt_irrefl _)
section
variable {P : Program} {w : World} {K : PySem.W.Frag} {mg : Str → Option Value} {base : Heap}
def R_short (cs : List Cl) (d : PyData) : Prop := ∃ t l : Nat, cs = [.d (.int (t : Nat)), .d (.int (l : Nat))] ∧ 0 < l ∧ l < 2 ^ 1990 ∧ d = frD (Rat.divInt t l)
theorem ok_short (B : Bl mg) (h : Has K mg "_law_short" s__law_short ["top", "low"]) : Cb P w K mg base 1 "_law_short" R_short := by
  refine Cb.of (k := 0) h c__law_short (fun cs d h => by obtain ⟨i, j, rfl, _⟩ := h; rfl) fun f cdv A outer s H E hr cs d h => ?_
  obtain ⟨t, l, rfl, hl0, hl, rfl⟩ := h
  refine s_cons (s_par (i := 2) (j := 3) rfl c__law_short.nd rfl rfl (by decide) rfl rfl (a_cons (yv 0) (a_cons (yv 1) a_nil)) ?_)
  have hg0 : 0 < Nat.gcd t l := Nat.gcd_pos_of_pos_right _ hl0
  have hgl : Nat.gcd t l ≤ l := Nat.gcd_le_right _ hl0
  have rest : ∀ (a : Nat) (o : Option Cl), Nat.gcd a 0 = Nat.gcd t l → Sy (bX P w K mg base ["top", "low", "one", "other", "lap"] "_law_short" s__law_short f cdv A outer s H E) [(defBody s__law_short).getD 2 (.Pass ⟨0, 0, 0, 0⟩)] [some (.d (.int (t : Nat))), some (.d (.int (l : Nat))), some (.d (.int (a : Nat))), some (.d (.int ((0 : Nat) : Nat))), o] { nx := fun _ => frD (Rat.divInt t l) = .none, rt := fun c => c = .d (frD (Rat.divInt t l)) } := fun a o hg => by
    rw [Nat.gcd_zero_right] at hg
    subst hg
    have cd : ∀ x : Int, CDivA x ((Nat.gcd t l : Nat) : Int) := fun x => ⟨by omega, .inl (by rw [Int.natAbs_natCast]; exact (Nat.log2_lt (by omega)).mpr (Nat.lt_of_le_of_lt hgl (Nat.lt_trans hl (Nat.pow_lt_pow_right (by decide) (by decide)))))⟩
    refine s_one (s_ret (y_tup2 (y_t1 c_int B.int (y_op (o_fdiv (cd _)) (yv 0) (yv 2))) (y_t1 c_int B.int (y_op (o_fdiv (cd _)) (yv 1) (yv 2)))) ?_)
    have h0 : ((l : Nat) : Int) ≠ 0 := by omega
    have e1 := part_num (top := (t : Int)) h0
    have e2 := part_den (top := (t : Int)) h0
    rw [if_pos (by omega), Int.one_mul] at e1 e2
    show Cl.d (.tuple [.int ((t : Int) / ((Nat.gcd t l : Nat) : Int)), .int ((l : Int) / ((Nat.gcd t l : Nat) : Int))]) = _
    rw [show Int.gcd (t : Int) (l : Int) = Nat.gcd t l from rfl] at e1 e2
    rw [e1, e2]
    rfl
  refine s_cons (s_forN (j := 4) (ds := rangeD 0 4000) PassesOwn.never rfl c__law_short.nd rfl (.inl rfl) (i_rangeN (n := 4000) rfl rfl B.range y_int (by decide)) (fun i δ => ∃ (a b : Nat) (o : Option Cl), δ = [some (.d (.int (t : Nat))), some (.d (.int (l : Nat))), some (.d (.int (a : Nat))), some (.d (.int (b : Nat))), o] ∧ Lap t l i a b) ⟨t, l, none, rfl, rfl, fun _ => ⟨rfl, rfl⟩, fun z => by omega⟩ (fun i d δ' hd hI => ?_) (fun δ' hI => ?_))
  · obtain ⟨a, b, o, rfl, lap⟩ := hI
    refine s_cons (s_if (t_cmp o_eqI (yv 3) y_int rfl) (fun hk => ?_) (fun hk => s_nil ?_))
    · have hb : b = 0 := by have := of_decide_eq_true hk; omega
      subst hb
      exact s_one (s_brk (rest a _ lap.g))
    · have hb : b ≠ 0 := fun z => by subst z; simp at hk
      refine s_one (s_par (i := 2) (j := 3) rfl c__law_short.nd rfl rfl (by decide) rfl rfl (a_cons (yv 3) (a_cons (y_op (o_mod ?_) (yv 2) (yv 3)) a_nil)) ⟨b, a % b, some (.d d), ?_, lap.next hb hl⟩)
      · omega
      · show [some (Cl.d (.int (t : Nat))), some (Cl.d (.int (l : Nat))), some (Cl.d (.int (b : Nat))), some (Cl.d (.int ((a : Int) % (b : Int)))), some (Cl.d d)] = _
        rw [← Int.natCast_emod]
  · obtain ⟨a, b, o, rfl, lap⟩ := hI
    rw [rangeD_len] at lap
    have hb := lap.fin
    subst hb
    exact rest a o lap.g
/-- sizes for the law's own fractions -/
structure Ls (q : Rat) : Prop where
  nn : 0 ≤ q
  b : Bq 990 q
def natOf (q : Rat) : Nat := q.num.toNat
theorem num_nat {q : Rat} (h : 0 ≤ q) : q.num = (natOf q : Nat) := by
  have := Rat.num_nonneg.mpr h
  unfold natOf
  omega
theorem den_lt {a b : Rat} (ha : Bq 990 a) (hb : Bq 990 b) : a.den * b.den < 2 ^ 1990 := by
  have h := (ha.d.mul hb.d).mono (show 990 + 990 ≤ 1990 by decide)
  unfold Bt at h
  rw [Int.natAbs_mul, Int.natAbs_natCast, Int.natAbs_natCast] at h
  exact h
theorem short_of {t : Int} {l : Nat} {q : Rat} (e : Rat.divInt t l = q) (ht : 0 ≤ t) (hl : 0 < l) (hb : l < 2 ^ 1990) : R_short [.d (.int t), .d (.int (l : Nat))] (frD q) := by
  refine ⟨t.toNat, l, ?_, hl, hb, ?_⟩
  · rw [Int.toNat_of_nonneg ht]
  · rw [Int.toNat_of_nonneg ht, e]
def R_lop (f : Rat → Rat → Rat) (C : Rat → Rat → Prop) (cs : List Cl) (d : PyData) : Prop := ∃ a b : Rat, cs = [.d (frD a), .d (frD b)] ∧ Ls a ∧ Ls b ∧ C a b ∧ d = frD (f a b)
def R_lplus := R_lop (· + ·) fun _ _ => True
def R_ltimes := R_lop (· * ·) fun _ _ => True
def R_lminus := R_lop (· - ·) fun a b => b ≤ a
theorem ok_lplus (h : Has K mg "_law_plus" s__law_plus ["one", "other"]) (hs : Cb P w K mg base 1 "_law_short" R_short) : Cb P w K mg base 2 "_law_plus" R_lplus := by
  refine Cb.of (k := 1) h c__law_plus (fun cs d h => by obtain ⟨i, j, rfl, _⟩ := h; rfl) fun f cdv A outer s H E hr cs d h => ?_
  obtain ⟨a, b, rfl, ha, hb, -, rfl⟩ := h
  have na := num_nat ha.nn
  have nb := num_nat hb.nn
  refine s_one (s_ret (y_cb2 hs hr (Nat.le_refl _) (y_op o_add (y_op (o_mul ?_) (y_fr0 (yv 0)) (y_fr1 (yv 1))) (y_op (o_mul ?_) (y_fr0 (yv 1)) (y_fr1 (yv 0)))) (y_conv (d' := .int ((a.den * b.den : Nat) : Int)) (y_op (o_mul ?_) (y_fr1 (yv 0)) (y_fr1 (yv 1))) ?_) (short_of (by rw [Int.natCast_mul]; exact add_di a b) ?_ (Nat.mul_pos a.den_pos b.den_pos) (den_lt ha.b hb.b))) rfl)
  · exact mulOk ha.b.n hb.b.d
  · exact mulOk hb.b.n ha.b.d
  · exact mulOk ha.b.d hb.b.d
  · rw [Int.natCast_mul]
  · exact Int.add_nonneg (Int.mul_nonneg (by omega) (by omega)) (Int.mul_nonneg (by omega) (by omega))
theorem ok_ltimes (h : Has K mg "_law_times" s__law_times ["one", "other"]) (hs : Cb P w K mg base 1 "_law_short" R_short) : Cb P w K mg base 2 "_law_times" R_ltimes := by
  refine Cb.of (k := 1) h c__law_times (fun cs d h => by obtain ⟨i, j, rfl, _⟩ := h; rfl) fun f cdv A outer s H E hr cs d h => ?_
  obtain ⟨a, b, rfl, ha, hb, -, rfl⟩ := h
  have na := num_nat ha.nn
  have nb := num_nat hb.nn
  refine s_one (s_ret (y_cb2 hs hr (Nat.le_refl _) (y_op (o_mul ?_) (y_fr0 (yv 0)) (y_fr0 (yv 1))) (y_conv (d' := .int ((a.den * b.den : Nat) : Int)) (y_op (o_mul ?_) (y_fr1 (yv 0)) (y_fr1 (yv 1))) ?_) (short_of (by rw [Int.natCast_mul]; exact mul_di a b) ?_ (Nat.mul_pos a.den_pos b.den_pos) (den_lt ha.b hb.b))) rfl)
  · exact mulOk ha.b.n hb.b.n
  · exact mulOk ha.b.d hb.b.d
  · rw [Int.natCast_mul]
  · exact Int.mul_nonneg (by omega) (by omega)
theorem ok_lminus (h : Has K mg "_law_minus" s__law_minus ["one", "other"]) (hs : Cb P w K mg base 1 "_law_short" R_short) : Cb P w K mg base 2 "_law_minus" R_lminus := by
  refine Cb.of (k := 1) h c__law_minus (fun cs d h => by obtain ⟨i, j, rfl, _⟩ := h; rfl) fun f cdv A outer s H E hr cs d h => ?_
  obtain ⟨a, b, rfl, ha, hb, hle, rfl⟩ := h
  refine s_one (s_ret (y_cb2 hs hr (Nat.le_refl _) (y_op o_sub (y_op (o_mul ?_) (y_fr0 (yv 0)) (y_fr1 (yv 1))) (y_op (o_mul ?_) (y_fr0 (yv 1)) (y_fr1 (yv 0)))) (y_conv (d' := .int ((a.den * b.den : Nat) : Int)) (y_op (o_mul ?_) (y_fr1 (yv 0)) (y_fr1 (yv 1))) ?_) (short_of (by rw [Int.natCast_mul]; exact sub_di a b) ?_ (Nat.mul_pos a.den_pos b.den_pos) (den_lt ha.b hb.b))) rfl)
  · exact mulOk ha.b.n hb.b.d
  · exact mulOk hb.b.n ha.b.d
  · exact mulOk ha.b.d hb.b.d
  · rw [Int.natCast_mul]
  · have := (Rat.le_iff b a).mp hle
    omega
def R_lless (cs : List Cl) (d : PyData) : Prop := ∃ a b : Int × Nat, cs = [.d (.tuple [.int a.1, .int (a.2 : Nat)]), .d (.tuple [.int b.1, .int (b.2 : Nat)])] ∧ Bt 4000 a.1 ∧ Bt 4000 (a.2 : Nat) ∧ Bt 4000 b.1 ∧ Bt 4000 (b.2 : Nat) ∧ d = .bool (decide (a.1 * b.2 < b.1 * a.2))
theorem ok_lless (h : Has K mg "_law_less" s__law_less ["one", "other"]) : Cb P w K mg base 1 "_law_less" R_lless := by
  refine Cb.of (k := 0) h c__law_less (fun cs d h => by obtain ⟨i, j, rfl, _⟩ := h; rfl) fun f cdv A outer s H E hr cs d h => ?_
  obtain ⟨a, b, rfl, h1, h2, h3, h4, rfl⟩ := h
  refine s_one (s_ret (y_cmp o_lt (y_op (o_mul ?_) (y_ix (x_tup (ds := [.int a.1, .int (a.2 : Nat)]) (i := 0) rfl) (yv 0) y_int) (y_ix (x_tup (ds := [.int b.1, .int (b.2 : Nat)]) (i := 1) rfl) (yv 1) y_int)) (y_op (o_mul ?_) (y_ix (x_tup (ds := [.int b.1, .int (b.2 : Nat)]) (i := 0) rfl) (yv 1) y_int) (y_ix (x_tup (ds := [.int a.1, .int (a.2 : Nat)]) (i := 1) rfl) (yv 0) y_int)) rfl) rfl)
  · exact mulOk h1 h4
  · exact mulOk h3 h2
theorem less_fr {a b : Rat} (ha : Bq 4000 a) (hb : Bq 4000 b) : R_lless [.d (frD a), .d (frD b)] (.bool (decide (a < b))) := ⟨(a.num, a.den), (b.num, b.den), rfl, ha.n, ha.d, hb.n, hb.d, by rw [lt_di]⟩
def R_linv (cs : List Cl) (d : PyData) : Prop := ∃ q : Rat, cs = [.d (frD q)] ∧ 0 < q ∧ d = frD (1 / q)
theorem inv_frD {q : Rat} (h : 0 < q) : PyData.tuple [.int (q.den : Nat), .int q.num] = frD (1 / q) := by
  have h0 : q ≠ 0 := fun z => by rw [z] at h; exact absurd h (by decide)
  have hn : 0 < q.num := by
    have h1 := Rat.num_nonneg.mpr (Rat.le_of_lt h)
    have h2 : q.num ≠ 0 := fun z => h0 (Rat.num_eq_zero.mp z)
    omega
  have e := inv_di q h0
  have e1 := part_num (top := (q.den : Int)) (low := q.num) (by omega)
  have e2 := part_den (top := (q.den : Int)) (low := q.num) (by omega)
  rw [if_pos hn, Int.one_mul] at e1 e2
  have hg : Int.gcd (q.den : Int) q.num = 1 := by rw [Int.gcd_comm]; exact q.reduced
  rw [hg, e] at e1 e2
  unfold frD
  rw [← e1, ← e2]
  simp
theorem ok_linv (h : Has K mg "_law_inverse" s__law_inverse ["share"]) : Cb P w K mg base 1 "_law_inverse" R_linv := by
  refine Cb.of (k := 0) h c__law_inverse (fun cs d h => by obtain ⟨i, rfl, _⟩ := h; rfl) fun f cdv A outer s H E hr cs d h => ?_
  obtain ⟨q, rfl, hq, rfl⟩ := h
  exact s_one (s_ret (y_conv (y_tup2 (y_fr1 (yv 0)) (y_fr0 (yv 0))) (inv_frD hq)) rfl)
end
end KP
set_option linter.all false
set_option maxRecDepth 100000
set_option maxHeartbeats 4000000
/-! t * k of tuples -/
namespace KW
open PySem PySem.Spec PyProof.Rows L2
theorem tuple_mul1 (l : Addr) (items : Array Value) (n : Nat) (dd : Option Addr) (sl : Array (Option Value)) (u : Tok) :
    Meets (Builtin.«tuple.__mul__» ⟨[.ref l, .int 1 u], []⟩) (fun _ R s => s.heap.get? l = some { cls := .type "tuple", dict := dd, data := .seq items n, slots := sl } ∧ R (.ok (.ret (Value.ref l))) s) :=
  .of_wp fun prog w A R s h => by
    obtain ⟨hp, g, d, tk, os⟩ := s
    obtain ⟨hl, h⟩ := h
    have f1 := AutoSeq1.idx_int
    have c1 : (items.isEmpty || (1 : Int) == 1) = true := by rw [show ((1 : Int) == 1) = true from rfl, Bool.or_true]
    wp_walk using AutoSeq1.wpAny_loadPart' hl
    repeat (first
      | (refine wpAny_ite_false (decide_eq_false (by decide)) ?_; wp_walk using AutoSeq1.wpAny_loadPart' hl)
      | (rw [if_pos c1]; wp_walk using AutoSeq1.wpAny_loadPart' hl)
      | (simp only [c1, if_true]; wp_walk using AutoSeq1.wpAny_loadPart' hl))
    exact ⟨_, rfl, h⟩
section
variable {X : Cx}
def rRep1 (K : PySem.W.Frag) : R2 := fun x y H Q => ∃ (l : Addr) (xs : List V), x = .ref l ∧ y = .int 1 ∧ SqT K H l xs ∧ Q (.ref l) H
theorem op_rep1 : OpR X (binaryOp .Mult) (rRep1 X.K) := by
  intro pins s σ H x y v u Q I rx ry h
  obtain ⟨l, xs, rfl, rfl, hT, q⟩ := h
  cases rx
  obtain ⟨t, rfl⟩ := ry
  obtain ⟨its, r, ⟨⟨cls, dd, data, sl⟩, ho, hc, n, hd⟩, hs⟩ := I.tuple hT
  simp only at hc hd
  subst hc hd
  refine wpAny_binaryOp_repeat_ref (T := "tuple") (U := "int") (by decide) ⟨_, ho, rfl⟩ (fun s' => typeIs_int s' 1 t) noFill_tuple_mul F.fills_int_mul F.slot_int_rmul repeat_tuple F.slot_int_index.lookup
    (call_meets F.slot_int_rmul (typeIs_int s 1 t) F.entry_int_rmul (F.args_int_rmul_2 _ _) (int_rmul_tuple 1 t l its.toArray n dd sl)
      ⟨ho, rfl, ⟨_, ho, rfl⟩, call_meets F.slot_tuple_mul ⟨_, ho, rfl⟩ F.entry_tuple_mul (F.args_tuple_mul_2 _ _) (tuple_mul1 l its.toArray n dd sl t) ⟨ho, ?_⟩⟩)
  exact ⟨.ref l, H, I, rfl, q⟩
theorem o_repT {ds : List PyData} {k : Int} (hne : ds ≠ []) (h1 : 1 ≤ k) (h2 : k ≤ 1000) (hz : ds.length ≤ 1000) : Oy X (binaryOp .Mult) (.d (.tuple ds)) (.d (.int k)) (.d (.tuple (List.replicate k.toNat ds).flatten)) := by
  by_cases hk : k = 1
  · subst hk
    refine ⟨_, op_rep1, fun x y H G Q eg o1 o2 q => ?_⟩
    have o1' : Rp X.K G x (.tuple ds) := o1
    have o2' : Rp X.K G y (.int 1) := o2
    cases o2'
    have e : (List.replicate (1 : Int).toNat ds).flatten = ds := by
      show (List.replicate 1 ds).flatten = ds
      simp
    cases o1' with
    | tup ht r => exact ⟨_, _, rfl, rfl, ex_t eg ht, q _ H G (Vx.refl eg) (by rw [e]; exact Rp.tup ht r)⟩
  · refine ⟨_, op_repT, fun x y H G Q eg o1 o2 q => ?_⟩
    have o1' : Rp X.K G x (.tuple ds) := o1
    have o2' : Rp X.K G y (.int k) := o2
    cases o2'
    cases o1' with
    | tup ht r =>
      refine ⟨_, k, _, rfl, rfl, ex_t eg ht, fun z => hne (by rw [z] at r; cases r; rfl), by omega, h2, by rw [r.length]; exact hz, fun p hp => ?_⟩
      exact q _ _ _ (Vx.new eg hp) (Rp.tup (SqT.of upd_same) ((rpAll_rep r _).mono (Vx.new eg hp).gg))
end
end KW
set_option linter.all false
set_option maxRecDepth 100000
set_option maxHeartbeats 4000000
/-! _law_corners, _law_due, _law_joined -/
namespace KP
open PySem PySem.Spec PyProof.Rows L2 KW K68
def cornersM (A B : Mx) (c : Rat) : Mx := (A.map fun r => r ++ List.replicate (B.getD 0 []).length c) ++ B.map fun r => List.replicate (A.getD 0 []).length c ++ r
theorem rep_fr (k : Nat) (x : Rat) : (List.replicate k [frD x]).flatten = frs (List.replicate k x) := by
  unfold frs
  rw [List.map_replicate]
  induction k with
  | zero => rfl
  | succ k ih => rw [List.replicate_succ, List.flatten_cons, ih, List.replicate_succ]; rfl
section
variable {P : Program} {w : World} {K : PySem.W.Frag} {mg : Str → Option Value} {base : Heap}
def R_lcor (cs : List Cl) (d : PyData) : Prop := ∃ (A B : Mx) (c : Rat), cs = [.d (matD A), .d (matD B), .d (frD c)] ∧ 1 ≤ A.length ∧ A.length ≤ 100 ∧ 1 ≤ B.length ∧ B.length ≤ 100 ∧ 1 ≤ (A.getD 0 []).length ∧ 1 ≤ (B.getD 0 []).length ∧ (∀ r ∈ A, r.length ≤ 100) ∧ (∀ r ∈ B, r.length ≤ 100) ∧ d = matD (cornersM A B c)
theorem ok_lcor (B' : Bl mg) (h : Has K mg "_law_corners" s__law_corners ["one", "other", "number"]) : Cb P w K mg base 1 "_law_corners" R_lcor := by
  refine Cb.of (k := 0) h c__law_corners (fun cs d h => by obtain ⟨_, _, _, rfl, _⟩ := h; rfl) fun f cdv A' outer s H E hr cs d h => ?_
  obtain ⟨A, B, c, rfl, a1, a2, b1, b2, aw, bw, ha, hb, rfl⟩ := h
  have ea : A[0]? = some (A.getD 0 []) := by rw [List.getD_eq_getElem?_getD, List.getElem?_eq_getElem (show 0 < A.length by omega)]; rfl
  have eb : B[0]? = some (B.getD 0 []) := by rw [List.getD_eq_getElem?_getD, List.getElem?_eq_getElem (show 0 < B.length by omega)]; rfl
  have ata : atI (A.map rowD) 0 = some (rowD (A.getD 0 [])) := atI_nat (j := 0) (by rw [List.getElem?_map, ea]; rfl)
  have atb : atI (B.map rowD) 0 = some (rowD (B.getD 0 [])) := atI_nat (j := 0) (by rw [List.getElem?_map, eb]; rfl)
  have la := ha _ (List.mem_of_getElem? ea)
  have lb := hb _ (List.mem_of_getElem? eb)
  refine s_cons (s_asg (d := .tuple [.int ((A.getD 0 []).length : Nat), .int ((B.getD 0 []).length : Nat)]) (y_conv (y_tup2 (y_b1 (c_lenT (ds := frs (A.getD 0 []))) B'.len (y_ix (x_tup (ds := A.map rowD) ata) (yv 0) y_int)) (y_b1 (c_lenT (ds := frs (B.getD 0 []))) B'.len (y_ix (x_tup (ds := B.map rowD) atb) (yv 1) y_int))) (by rw [frs_len, frs_len])) (g_tup (ds := [.int ((A.getD 0 []).length : Nat), .int ((B.getD 0 []).length : Nat)]) rfl (gs_cons (g_name (i := 3) c__law_corners.nd rfl (.inr rfl)) (gs_cons (g_name (i := 4) c__law_corners.nd rfl (.inr rfl)) gs_nil))) ?_)
  refine s_one (s_ret (y_t1 (c_tupL (ds := (cornersM A B c).map rowD)) B'.tuple (y_conv (y_op (o_catL (ds := (A.map fun r => r ++ List.replicate (B.getD 0 []).length c).map rowD) (es := (B.map fun r => List.replicate (A.getD 0 []).length c ++ r).map rowD) ?_) (y_lcN (rs := (A.map fun r => r ++ List.replicate (B.getD 0 []).length c).map rowD) c__law_corners.nd 5 (i_tup (ds := A.map rowD) (yv 0)) b__law_corners_0 ?_ (fun j d r hd'' hr3 s H0 C' cl fp => ?_) ?_) (y_lcN (rs := (B.map fun r => List.replicate (A.getD 0 []).length c ++ r).map rowD) c__law_corners.nd 5 (i_tup (ds := B.map rowD) (yv 1)) b__law_corners_1 ?_ (fun j d r hd'' hr3 s H0 C' cl fp => ?_) ?_)) ?_)) rfl)
  · rw [List.length_map, List.length_map, List.length_map, List.length_map]; omega
  · rw [List.length_map, List.length_map, List.length_map]
  · obtain ⟨row, hrow, rfl⟩ := mat_at hd''
    obtain ⟨r2, hr2, rfl⟩ := mat_at hr3
    rw [List.getElem?_map, hrow] at hr2
    cases hr2
    have lr := ha row (List.mem_of_getElem? hrow)
    refine y_conv (y_op (o_catT (ds := frs row) ?_) (yv 5) (y_op (o_repT (ds := [frD c]) (by simp) ?_ ?_ (by show 1 ≤ 1000; decide)) (y_tup1 (yv 2)) (yv 4))) ?_
    · rw [Int.toNat_natCast, rep_fr, frs_len, frs_len, List.length_replicate]; omega
    · omega
    · omega
    · rw [Int.toNat_natCast, rep_fr]
      show PyData.tuple (frs row ++ frs _) = PyData.tuple (frs (row ++ List.replicate (B.getD 0 []).length c))
      unfold frs
      rw [List.map_append]
  · rw [List.length_map]; omega
  · rw [List.length_map, List.length_map, List.length_map]
  · obtain ⟨row, hrow, rfl⟩ := mat_at hd''
    obtain ⟨r2, hr2, rfl⟩ := mat_at hr3
    rw [List.getElem?_map, hrow] at hr2
    cases hr2
    have lr := hb row (List.mem_of_getElem? hrow)
    refine y_conv (y_op (o_catT (es := frs row) ?_) (y_op (o_repT (ds := [frD c]) (by simp) ?_ ?_ (by show 1 ≤ 1000; decide)) (y_tup1 (yv 2)) (yv 3)) (yv 5)) ?_
    · rw [Int.toNat_natCast, rep_fr, frs_len, frs_len, List.length_replicate]; omega
    · omega
    · omega
    · rw [Int.toNat_natCast, rep_fr]
      show PyData.tuple (frs _ ++ frs row) = PyData.tuple (frs (List.replicate (A.getD 0 []).length c ++ row))
      unfold frs
      rw [List.map_append]
  · rw [List.length_map]; omega
  · unfold cornersM
    rw [List.map_append]
/-! _law_due -/
def upQ (a b c : Rat) : Rat := c + 1 / (1 / (a - c) + 1 / (b - c))
def dnQ (a b c : Rat) : Rat := c - 1 / (1 / (c - a) + 1 / (c - b))
def dueQ (a b c : Rat) : Rat :=
  if ¬ a < c ∧ ¬ b < c then (if a - c = 0 ∨ b - c = 0 then c else upQ a b c)
  else if ¬ c < a ∧ ¬ c < b then (if c - a = 0 ∨ c - b = 0 then c else dnQ a b c)
  else c
def R_ldue (cs : List Cl) (d : PyData) : Prop := ∃ a b c : Rat, cs = [.d (frD a), .d (frD b), .d (frD c)] ∧ 0 ≤ a ∧ 0 ≤ b ∧ 0 ≤ c ∧ Bq 110 a ∧ Bq 110 b ∧ Bq 110 c ∧ d = frD (dueQ a b c)
theorem any_fr (x y : Rat) : ([frD x, frD y].any fun z => PyData.eqv z (frD 0)) = (decide (x = 0) || decide (y = 0)) := by
  simp only [List.any_cons, List.any_nil, Bool.or_false]
  rw [eqv_frs, eqv_frs]
theorem shp_fr2 (x y : Rat) : SeqAt.shaped (.list [frD x, frD y]) = true := by simp [frD, SeqAt.shaped, PyData.canLay0, PyData.canLayAll0, PyData.depth, PyData.depthAll]
theorem inv_pos {x : Rat} (h : 0 < x) : 0 < 1 / x := by
  have h0 : x ≠ 0 := fun z => by rw [z] at h; exact absurd h (by decide)
  have h1 : (1 / x) * x = 1 := Rat.div_mul_cancel h0
  by_cases hc : 0 < 1 / x
  · exact hc
  · have h2 : 1 / x ≤ 0 := Rat.not_lt.mp hc
    have h3 : (1 / x) * x ≤ 0 * x := Rat.mul_le_mul_of_nonneg_right h2 (Rat.le_of_lt h)
    rw [h1, Rat.zero_mul] at h3
    exact absurd h3 (by decide)
theorem ok_ldue (h : Has K mg "_law_due" s__law_due ["one", "other", "number"]) (hl : Cb P w K mg base 1 "_law_less" R_lless) (hm : Cb P w K mg base 2 "_law_minus" R_lminus) (hp : Cb P w K mg base 2 "_law_plus" R_lplus) (hi : Cb P w K mg base 1 "_law_inverse" R_linv) : Cb P w K mg base 3 "_law_due" R_ldue := by
  refine Cb.of (k := 2) h c__law_due (fun cs d h => by obtain ⟨_, _, _, rfl, _⟩ := h; rfl) fun f cdv A outer s H E hr cs d h => ?_
  obtain ⟨a, b, c, rfl, a0, b0, c0, ba, bb, bc, rfl⟩ := h
  have b4 : ∀ {q : Rat}, Bq 110 q → Bq 4000 q := fun h => h.mono (by decide)
  have ls : ∀ {q : Rat}, 0 ≤ q → Bq 110 q → Ls q := fun h1 h2 => ⟨h1, h2.mono (by decide)⟩
  have sb : ∀ {x y : Rat}, y ≤ x → 0 ≤ x - y := fun h => by grind
  have bs : ∀ {x y : Rat}, Bq 110 x → Bq 110 y → Bq 221 (x - y) := fun h1 h2 => h1.sub h2
  refine s_cons (s_if (t_w (w_and (t_not (t_val (y_cb2 hl hr (by decide) (yv 0) (yv 2) (less_fr (b4 ba) (b4 bc))))) fun _ => w_and1 (t_not (t_val (y_cb2 hl hr (by decide) (yv 1) (yv 2) (less_fr (b4 bb) (b4 bc))))))) (fun hk => ?_) (fun hk => s_nil ?_))
  · have h1 : ¬ a < c ∧ ¬ b < c := by simpa using hk
    have ca : c ≤ a := Rat.not_lt.mp h1.1
    have cb : c ≤ b := Rat.not_lt.mp h1.2
    have la : Ls (a - c) := ⟨sb ca, (bs ba bc).mono (by decide)⟩
    have lb : Ls (b - c) := ⟨sb cb, (bs bb bc).mono (by decide)⟩
    refine s_cons (s_set (i := 3) c__law_due.nd rfl (.inl rfl) (y_lst2 (y_cb2 hm hr (by decide) (yv 0) (yv 2) ⟨a, c, rfl, ls a0 ba, ls c0 bc, ca, rfl⟩) (y_cb2 hm hr (by decide) (yv 1) (yv 2) ⟨b, c, rfl, ls b0 bb, ls c0 bc, cb, rfl⟩)) ?_)
    have e1 : dueQ a b c = if a - c = 0 ∨ b - c = 0 then c else upQ a b c := if_pos h1
    refine s_cons (s_if (t_cmp (o_inD (d := frD 0) (ds := [frD (a - c), frD (b - c)]) (by have := hr.un; omega) (shp_fr 0) (shp_fr2 _ _)) (y_conv (y_tup2 y_int y_int) rfl) (yv 3) rfl) (fun hk2 => ?_) (fun hk2 => s_nil ?_))
    · rw [any_fr] at hk2
      have h2 : a - c = 0 ∨ b - c = 0 := by simpa using hk2
      refine s_one (s_ret (yv 2) ?_)
      show Cl.d (frD c) = _
      rw [e1, if_pos h2]
    · rw [any_fr] at hk2
      have h2 : ¬ (a - c = 0 ∨ b - c = 0) := by simpa using hk2
      have n1 : a - c ≠ 0 := fun z => h2 (.inl z)
      have n2 : b - c ≠ 0 := fun z => h2 (.inr z)
      have p1 : 0 < a - c := by grind
      have p2 : 0 < b - c := by grind
      have i1 := inv_pos p1
      have i2 := inv_pos p2
      have bi1 : Bq 221 (1 / (a - c)) := (bs ba bc).inv n1
      have bi2 : Bq 221 (1 / (b - c)) := (bs bb bc).inv n2
      have sp : 0 < 1 / (a - c) + 1 / (b - c) := by grind
      have bsum : Bq 443 (1 / (a - c) + 1 / (b - c)) := bi1.add bi2
      have l1 : Ls (1 / (a - c)) := ⟨Rat.le_of_lt i1, bi1.mono (by decide)⟩
      have l2 : Ls (1 / (b - c)) := ⟨Rat.le_of_lt i2, bi2.mono (by decide)⟩
      have l3 : Ls (1 / (1 / (a - c) + 1 / (b - c))) := ⟨Rat.le_of_lt (inv_pos sp), (bsum.inv (by grind)).mono (by decide)⟩
      refine s_one (s_ret (y_cb2 hp hr (by decide) (yv 2) (y_cb1 hi hr (by decide) (y_cb2 hp hr (by decide) (y_cb1 hi hr (by decide) (y_ix (x_lst (ds := [frD (a - c), frD (b - c)]) (i := 0) rfl) (yv 3) y_int) ⟨a - c, rfl, p1, rfl⟩) (y_cb1 hi hr (by decide) (y_ix (x_lst (ds := [frD (a - c), frD (b - c)]) (i := 1) rfl) (yv 3) y_int) ⟨b - c, rfl, p2, rfl⟩) ⟨_, _, rfl, l1, l2, True.intro, rfl⟩) ⟨_, rfl, sp, rfl⟩) ⟨c, _, rfl, ls c0 bc, l3, True.intro, rfl⟩) ?_)
      show Cl.d (frD (upQ a b c)) = _
      rw [e1, if_neg h2]
  have h1 : ¬ (¬ a < c ∧ ¬ b < c) := by simpa using hk
  refine s_cons (s_if (t_w (w_and (t_not (t_val (y_cb2 hl hr (by decide) (yv 2) (yv 0) (less_fr (b4 bc) (b4 ba))))) fun _ => w_and1 (t_not (t_val (y_cb2 hl hr (by decide) (yv 2) (yv 1) (less_fr (b4 bc) (b4 bb))))))) (fun hk3 => ?_) (fun hk3 => s_nil ?_))
  · have h3 : ¬ c < a ∧ ¬ c < b := by simpa using hk3
    have ca : a ≤ c := Rat.not_lt.mp h3.1
    have cb : b ≤ c := Rat.not_lt.mp h3.2
    refine s_cons (s_set (i := 4) c__law_due.nd rfl (.inl rfl) (y_lst2 (y_cb2 hm hr (by decide) (yv 2) (yv 0) ⟨c, a, rfl, ls c0 bc, ls a0 ba, ca, rfl⟩) (y_cb2 hm hr (by decide) (yv 2) (yv 1) ⟨c, b, rfl, ls c0 bc, ls b0 bb, cb, rfl⟩)) ?_)
    have e1 : dueQ a b c = if c - a = 0 ∨ c - b = 0 then c else dnQ a b c := by unfold dueQ; rw [if_neg h1, if_pos h3]
    refine s_cons (s_if (t_cmp (o_inD (d := frD 0) (ds := [frD (c - a), frD (c - b)]) (by have := hr.un; omega) (shp_fr 0) (shp_fr2 _ _)) (y_conv (y_tup2 y_int y_int) rfl) (yv 4) rfl) (fun hk2 => ?_) (fun hk2 => s_nil ?_))
    · rw [any_fr] at hk2
      have h2 : c - a = 0 ∨ c - b = 0 := by simpa using hk2
      refine s_one (s_ret (yv 2) ?_)
      show Cl.d (frD c) = _
      rw [e1, if_pos h2]
    · rw [any_fr] at hk2
      have h2 : ¬ (c - a = 0 ∨ c - b = 0) := by simpa using hk2
      have n1 : c - a ≠ 0 := fun z => h2 (.inl z)
      have n2 : c - b ≠ 0 := fun z => h2 (.inr z)
      have p1 : 0 < c - a := by grind
      have p2 : 0 < c - b := by grind
      have i1 := inv_pos p1
      have i2 := inv_pos p2
      have bi1 : Bq 221 (1 / (c - a)) := (bs bc ba).inv n1
      have bi2 : Bq 221 (1 / (c - b)) := (bs bc bb).inv n2
      have sp : 0 < 1 / (c - a) + 1 / (c - b) := by grind
      have bsum : Bq 443 (1 / (c - a) + 1 / (c - b)) := bi1.add bi2
      have l1 : Ls (1 / (c - a)) := ⟨Rat.le_of_lt i1, bi1.mono (by decide)⟩
      have l2 : Ls (1 / (c - b)) := ⟨Rat.le_of_lt i2, bi2.mono (by decide)⟩
      have l3 : Ls (1 / (1 / (c - a) + 1 / (c - b))) := ⟨Rat.le_of_lt (inv_pos sp), (bsum.inv (by grind)).mono (by decide)⟩
      -- what is taken off is no more than the number
      have hle : 1 / (1 / (c - a) + 1 / (c - b)) ≤ c := by
        have s1 : (1 / (c - a)) * (c - a) = 1 := Rat.div_mul_cancel n1
        have sne : 1 / (c - a) + 1 / (c - b) ≠ 0 := by grind
        have s3 : (1 / (1 / (c - a) + 1 / (c - b))) * (1 / (c - a) + 1 / (c - b)) = 1 := Rat.div_mul_cancel sne
        by_cases hc : 1 / (1 / (c - a) + 1 / (c - b)) ≤ c - a
        · grind
        · have q1 : c - a ≤ 1 / (1 / (c - a) + 1 / (c - b)) := by grind
          have q2 : (c - a) * (1 / (c - a) + 1 / (c - b)) ≤ (1 / (1 / (c - a) + 1 / (c - b))) * (1 / (c - a) + 1 / (c - b)) := Rat.mul_le_mul_of_nonneg_right q1 (Rat.le_of_lt sp)
          have q3 : 0 < (c - a) * (1 / (c - b)) := Rat.mul_pos p1 i2
          grind
      refine s_one (s_ret (y_cb2 hm hr (by decide) (yv 2) (y_cb1 hi hr (by decide) (y_cb2 hp hr (by decide) (y_cb1 hi hr (by decide) (y_ix (x_lst (ds := [frD (c - a), frD (c - b)]) (i := 0) rfl) (yv 4) y_int) ⟨c - a, rfl, p1, rfl⟩) (y_cb1 hi hr (by decide) (y_ix (x_lst (ds := [frD (c - a), frD (c - b)]) (i := 1) rfl) (yv 4) y_int) ⟨c - b, rfl, p2, rfl⟩) ⟨_, _, rfl, l1, l2, True.intro, rfl⟩) ⟨_, rfl, sp, rfl⟩) ⟨c, _, rfl, ls c0 bc, l3, hle, rfl⟩) ?_)
      show Cl.d (frD (dnQ a b c)) = _
      rw [e1, if_neg h2]
  · have h3 : ¬ (¬ c < a ∧ ¬ c < b) := by simpa using hk3
    refine s_one (s_ret (yv 2) ?_)
    show Cl.d (frD c) = _
    unfold dueQ
    rw [if_neg h1, if_neg h3]
/-! _law_joined -/
def part0 (g h : Rat) : Rat := 1 / g * (1 / (1 / g + 1 / h))
def part1 (g h : Rat) : Rat := 1 / h * (1 / (1 / g + 1 / h))
def joinL (xs ys : List Rat) (g h : Rat) : List Rat := (xs.map fun x => x * part0 g h) ++ ys.map fun y => y * part1 g h
def R_ljoin (cs : List Cl) (d : PyData) : Prop := ∃ (xs ys : List Rat) (g h : Rat), cs = [.d (.tuple (frs xs)), .d (.tuple (frs ys)), .d (.list [frD g, frD h])] ∧ xs.length ≤ 100 ∧ ys.length ≤ 100 ∧ (∀ x ∈ xs, 0 ≤ x ∧ Bq 110 x) ∧ (∀ y ∈ ys, 0 ≤ y ∧ Bq 110 y) ∧ 0 < g ∧ 0 < h ∧ Bq 221 g ∧ Bq 221 h ∧ d = .tuple (frs (joinL xs ys g h))
theorem ok_ljoin (B : Bl mg) (h : Has K mg "_law_joined" s__law_joined ["one", "other", "gains"]) (hp : Cb P w K mg base 2 "_law_plus" R_lplus) (ht : Cb P w K mg base 2 "_law_times" R_ltimes) (hi : Cb P w K mg base 1 "_law_inverse" R_linv) : Cb P w K mg base 3 "_law_joined" R_ljoin := by
  refine Cb.of (k := 2) h c__law_joined (fun cs d h => by obtain ⟨_, _, _, _, rfl, _⟩ := h; rfl) fun f cdv A outer s H E hr cs d h => ?_
  obtain ⟨xs, ys, g, k, rfl, zx, zy, hx, hy, g0, k0, bg, bk, rfl⟩ := h
  have gn : g ≠ 0 := by grind
  have kn : k ≠ 0 := by grind
  have ig := inv_pos g0
  have ik := inv_pos k0
  have big : Bq 221 (1 / g) := bg.inv gn
  have bik : Bq 221 (1 / k) := bk.inv kn
  have sp : 0 < 1 / g + 1 / k := by grind
  have bsum : Bq 443 (1 / g + 1 / k) := big.add bik
  have isp := inv_pos sp
  have bi : Bq 443 (1 / (1 / g + 1 / k)) := bsum.inv (by grind)
  have p0 : 0 ≤ part0 g k := Rat.le_of_lt (Rat.mul_pos ig isp)
  have p1 : 0 ≤ part1 g k := Rat.le_of_lt (Rat.mul_pos ik isp)
  have b0 : Bq 664 (part0 g k) := big.mul bi
  have b1 : Bq 664 (part1 g k) := bik.mul bi
  have lg : Ls (1 / g) := ⟨Rat.le_of_lt ig, big.mono (by decide)⟩
  have lk : Ls (1 / k) := ⟨Rat.le_of_lt ik, bik.mono (by decide)⟩
  have ls : Ls (1 / (1 / g + 1 / k)) := ⟨Rat.le_of_lt isp, bi.mono (by decide)⟩
  have l0 : Ls (part0 g k) := ⟨p0, b0.mono (by decide)⟩
  have l1 : Ls (part1 g k) := ⟨p1, b1.mono (by decide)⟩
  refine s_cons (s_set (i := 3) c__law_joined.nd rfl (.inr rfl) (y_cb2 hp hr (by decide) (y_cb1 hi hr (by decide) (y_ix (x_lst (ds := [frD g, frD k]) (i := 0) rfl) (yv 2) y_int) ⟨g, rfl, g0, rfl⟩) (y_cb1 hi hr (by decide) (y_ix (x_lst (ds := [frD g, frD k]) (i := 1) rfl) (yv 2) y_int) ⟨k, rfl, k0, rfl⟩) ⟨_, _, rfl, lg, lk, True.intro, rfl⟩) ?_)
  refine s_cons (s_set (i := 4) c__law_joined.nd rfl (.inr rfl) (y_lcN (rs := [frD (part0 g k), frD (part1 g k)]) c__law_joined.nd 5 (i_list (ds := [frD g, frD k]) (yv 2)) b__law_joined_0 rfl (fun j d r hd'' hr3 s H0 C' cl fp => ?_) (by show 2 ≤ 10000; decide)) ?_)
  · cases j with
    | zero =>
      cases hd''
      cases hr3
      exact y_cb2 ht hr (by decide) (y_cb1 hi hr (by decide) (yv 5) ⟨g, rfl, g0, rfl⟩) (y_cb1 hi hr (by decide) (yv 3) ⟨_, rfl, sp, rfl⟩) ⟨_, _, rfl, lg, ls, True.intro, rfl⟩
    | succ j =>
      cases j with
      | zero =>
        cases hd''
        cases hr3
        exact y_cb2 ht hr (by decide) (y_cb1 hi hr (by decide) (yv 5) ⟨k, rfl, k0, rfl⟩) (y_cb1 hi hr (by decide) (yv 3) ⟨_, rfl, sp, rfl⟩) ⟨_, _, rfl, lk, ls, True.intro, rfl⟩
      | succ j => cases hd''
  refine s_one (s_ret (y_t1 (c_tupL (ds := frs (joinL xs ys g k))) B.tuple (y_conv (y_op (o_catL (ds := frs (xs.map fun x => x * part0 g k)) (es := frs (ys.map fun y => y * part1 g k)) ?_) (y_lcN (rs := frs (xs.map fun x => x * part0 g k)) c__law_joined.nd 6 (i_tup (ds := frs xs) (yv 0)) b__law_joined_1 ?_ (fun j d r hd'' hr3 s H0 C' cl fp => ?_) ?_) (y_lcN (rs := frs (ys.map fun y => y * part1 g k)) c__law_joined.nd 6 (i_tup (ds := frs ys) (yv 1)) b__law_joined_2 ?_ (fun j d r hd'' hr3 s H0 C' cl fp => ?_) ?_)) ?_)) rfl)
  · rw [frs_len, frs_len, List.length_map, List.length_map]; omega
  · rw [frs_len, frs_len, List.length_map]
  · obtain ⟨x, ex, rfl⟩ := frs_at hd''
    obtain ⟨q, eq, rfl⟩ := frs_at hr3
    rw [List.getElem?_map, ex] at eq
    cases eq
    obtain ⟨x0, bx⟩ := hx x (List.mem_of_getElem? ex)
    exact y_cb2 ht hr (by decide) (yv 6) (y_ix (x_lst (ds := [frD (part0 g k), frD (part1 g k)]) (i := 0) rfl) (yv 4) y_int) ⟨x, part0 g k, rfl, ⟨x0, bx.mono (by decide)⟩, l0, True.intro, rfl⟩
  · rw [frs_len]; omega
  · rw [frs_len, frs_len, List.length_map]
  · obtain ⟨x, ex, rfl⟩ := frs_at hd''
    obtain ⟨q, eq, rfl⟩ := frs_at hr3
    rw [List.getElem?_map, ex] at eq
    cases eq
    obtain ⟨x0, bx⟩ := hy x (List.mem_of_getElem? ex)
    exact y_cb2 ht hr (by decide) (yv 6) (y_ix (x_lst (ds := [frD (part0 g k), frD (part1 g k)]) (i := 1) rfl) (yv 4) y_int) ⟨x, part1 g k, rfl, ⟨x0, bx.mono (by decide)⟩, l1, True.intro, rfl⟩
  · rw [frs_len]; omega
  · unfold joinL frs
    rw [List.map_append]
end
end KP
set_option linter.all false
set_option maxRecDepth 100000
set_option maxHeartbeats 4000000
/-! _law_is_palin -/
namespace KP
open PySem PySem.Spec PyProof.Rows L2 KW K68
def prodL (M : Mx) (rows : List Rat) (k : Nat) : List Rat := List.zipWith (· * ·) rows (colM M k)
def palin (M : Mx) (n : Nat) (rows : List Rat) (v : Rat) : Bool := (List.range n).all fun k => !decide ((prodL M rows.reverse k).sum < v)
structure PalOk (M : Mx) (n : Nat) (x : Told) : Prop where
  m1 : 1 ≤ M.length
  m100 : M.length ≤ 100
  n100 : n ≤ 100
  wd : ∀ r ∈ M, r.length = n
  sh : ∀ q ∈ x.rows, Ls q
  en : ∀ r ∈ M, ∀ q ∈ r, Ls q
  sv : Bq 4000 x.v
  tot : ∀ k i, k < n → Ls ((prodL M x.rows.reverse k).take i).sum
  pr : ∀ k, k < n → ∀ q ∈ prodL M x.rows.reverse k, Ls q
def R_lpal (cs : List Cl) (d : PyData) : Prop := ∃ (M : Mx) (n : Nat) (x : Told), cs = [.d (matD M), .d (toldD x)] ∧ PalOk M n x ∧ d = .bool (palin M n x.rows x.v)
section
variable {P : Program} {w : World} {K : PySem.W.Frag} {mg : Str → Option Value} {base : Heap}
theorem frs_rev (l : List Rat) : (frs l).reverse = frs l.reverse := by unfold frs; rw [List.map_reverse]
theorem ok_lpal (B : Bl mg) (h : Has K mg "_law_is_palin" s__law_is_palin ["matrix", "paper"]) (hp : Cb P w K mg base 2 "_law_plus" R_lplus) (ht : Cb P w K mg base 2 "_law_times" R_ltimes) (hl : Cb P w K mg base 1 "_law_less" R_lless) : Cb P w K mg base 3 "_law_is_palin" R_lpal := by
  refine Cb.of (k := 2) h c__law_is_palin (fun cs d h => by obtain ⟨_, _, _, rfl, _⟩ := h; rfl) fun f cdv A outer s H E hr cs d h => ?_
  obtain ⟨M, n, x, rfl, ok, rfl⟩ := h
  have m1 := ok.m1
  obtain ⟨r0, er0⟩ : ∃ r, M[0]? = some r := ⟨_, List.getElem?_eq_getElem (show 0 < M.length by omega)⟩
  have hr0 : r0.length = n := ok.wd r0 (List.mem_of_getElem? er0)
  have at0 : atI (M.map rowD) 0 = some (rowD r0) := atI_nat (j := 0) (by rw [List.getElem?_map, er0]; rfl)
  have v0 : atI [frD x.v, .tuple (frs x.rows), .tuple (frs x.cols)] 0 = some (frD x.v) := rfl
  have v1 : atI [frD x.v, .tuple (frs x.rows), .tuple (frs x.cols)] 1 = some (.tuple (frs x.rows)) := rfl
  refine s_cons (s_forN (j := 2) (ds := rangeD 0 n) PassesOwn.never rfl c__law_is_palin.nd rfl (.inl rfl) (i_rangeN (n := n) (by rw [frs_len, hr0]) rfl B.range (y_b1 (c_lenT (ds := frs r0)) B.len (y_ix (x_tup (ds := M.map rowD) at0) (yv 0) y_int)) (by have := ok.n100; omega)) (fun k δ => (∃ o1 o2 o3 o4, δ = [some (.d (matD M)), some (.d (toldD x)), o1, o2, o3, o4]) ∧ ∀ j, j < k → ¬ (prodL M x.rows.reverse j).sum < x.v) ⟨⟨none, none, none, none, rfl⟩, fun j hj => by omega⟩ (fun k d δ' hd hI => ?_) (fun δ' hI => ?_))
  · obtain ⟨⟨o1, o2, o3, o4, rfl⟩, hI⟩ := hI
    obtain ⟨hk, rfl⟩ := rangeD_at hd
    rw [show (0 : Int) + (k : Int) = (k : Int) by omega]
    refine s_cons (s_set (i := 3) c__law_is_palin.nd rfl (.inl rfl) (y_conv (d' := frD 0) (y_tup2 y_int y_int) rfl) ?_)
    have lenP : (prodL M x.rows.reverse k).length = (zipD (frs x.rows.reverse) (M.map rowD)).length := by
      unfold prodL colM
      rw [List.length_zipWith, List.length_map, zipD_len, frs_len, List.length_map]
    refine s_cons (s_forP (j1 := 4) (j2 := 5) (ds := zipD (frs x.rows.reverse) (M.map rowD)) PassesOwn.never rfl c__law_is_palin.nd rfl rfl (.inl rfl) (.inl rfl) (i_zipT rfl B.zip (y_conv (y_revT (ds := frs x.rows) (y_ix (x_tup v1) (yv 1) y_int)) (congrArg PyData.tuple (frs_rev x.rows))) (yv 0)) (fun i δ => ∃ o3 o4, δ = [some (.d (matD M)), some (.d (toldD x)), some (.d (.int (k : Nat))), some (.d (frD ((prodL M x.rows.reverse k).take i).sum)), o3, o4]) ⟨o3, o4, by rw [List.take_zero]; rfl⟩ (fun i d δ' hd' hI' => ?_) (fun δ' hI' => ?_))
    · obtain ⟨o3', o4', rfl⟩ := hI'
      obtain ⟨a, b, ha, hb, rfl⟩ := zipD_at hd'
      obtain ⟨q, eq, rfl⟩ := frs_at ha
      obtain ⟨row, erow, rfl⟩ := mat_at hb
      have rl := ok.wd row (List.mem_of_getElem? erow)
      have ec : row[k]? = some (row.getD k 0) := by rw [List.getD_eq_getElem?_getD, List.getElem?_eq_getElem (by omega)]; rfl
      have ep : (prodL M x.rows.reverse k)[i]? = some (q * row.getD k 0) := by
        unfold prodL colM
        rw [List.getElem?_zipWith, eq, List.getElem?_map, erow]
        rfl
      have lq : Ls q := ok.sh q (List.mem_reverse.mp (List.mem_of_getElem? eq))
      have le : Ls (row.getD k 0) := ok.en row (List.mem_of_getElem? erow) _ (List.mem_of_getElem? ec)
      refine ⟨_, _, rfl, s_one (s_set (i := 3) c__law_is_palin.nd rfl (.inl rfl) (y_cb2 hp hr (by decide) (yv 3) (y_cb2 ht hr (by decide) (yv 4) (y_ix (x_tup (ds := frs row) (atI_nat (frs_get ec))) (yv 5) (yv 2)) ⟨q, _, rfl, lq, le, True.intro, rfl⟩) ⟨_, _, rfl, ok.tot k i hk, ok.pr k hk _ (List.mem_of_getElem? ep), True.intro, rfl⟩) ⟨some (.d (frD q)), some (.d (rowD row)), ?_⟩)⟩
      rw [take_sum ep]
      rfl
    · obtain ⟨o3', o4', rfl⟩ := hI'
      rw [← lenP, List.take_length]
      have lt : Ls (prodL M x.rows.reverse k).sum := by
        have := ok.tot k (prodL M x.rows.reverse k).length hk
        rwa [List.take_length] at this
      refine s_one (s_if (t_val (y_cb2 hl hr (by decide) (yv 3) (y_ix (x_tup v0) (yv 1) y_int) (less_fr (lt.b.mono (by decide)) ok.sv))) (fun hk2 => s_one (s_ret y_bl ?_)) (fun hk2 => s_nil ?_))
      · have h2 := of_decide_eq_true hk2
        show Cl.d (.bool false) = _
        have : palin M n x.rows x.v = false := by
          unfold palin
          rw [List.all_eq_false]
          exact ⟨k, List.mem_range.mpr hk, by simp [h2]⟩
        rw [this]
      · have h2 := of_decide_eq_false hk2
        refine ⟨⟨_, _, _, _, rfl⟩, fun j hj => ?_⟩
        by_cases hjk : j = k
        · rw [hjk]; exact h2
        · exact hI j (by omega)
  · obtain ⟨⟨o1, o2, o3, o4, rfl⟩, hI⟩ := hI
    rw [rangeD_len] at hI
    refine s_one (s_ret y_bl ?_)
    show Cl.d (.bool true) = _
    have : palin M n x.rows x.v = true := by
      unfold palin
      rw [List.all_eq_true]
      intro k hk
      simp [hI k (List.mem_range.mp hk)]
    rw [this]
end
end KP
set_option linter.all false
set_option maxRecDepth 100000
set_option maxHeartbeats 4000000
/-! the pot -/
namespace KP
open PySem PySem.Spec PyProof.Rows L2 KW K68
structure PotV (a b c : Int) (m : Nat) : Prop where
  a0 : 0 ≤ a
  a1 : Bt 1000 a
  b0 : 0 ≤ b
  b1 : Bt 61 b
  c0 : 0 ≤ c
  c1 : c ≤ (m : Int)
def Pot (p : Addr) (m : Nat) (H : Hp) : Prop := ∃ a b c : Int, H p = some (.lst [.int a, .int b, .int c]) ∧ PotV a b c m
def potD (a b c : Int) : PyData := .list [.int a, .int b, .int c]
section
variable {X : Cx} {p : Addr} {H G : Hp} {δ : DE} {σ : L2.St} {e : Expr} {a b c : Int}
theorem pot_view (h : H p = some (.lst [.int a, .int b, .int c])) (eg : Ex G H) (gp : G p = none) (en : En X.K G σ δ) (h0 : δ[0]? = some (some (.v (.ref p)))) :
    Ex (upd G p (.lst [.int a, .int b, .int c])) H ∧ En X.K (upd G p (.lst [.int a, .int b, .int c])) σ (δ.set 0 (some (.d (potD a b c)))) := by
  have e1 : Ex G (upd G p (.lst [.int a, .int b, .int c])) := Ex.new gp
  refine ⟨fun x o q => ?_, ?_⟩
  · by_cases z : x = p
    · rw [z, upd_same] at q; rw [z, h]; exact q
    · rw [upd_ne z] at q; exact eg x o q
  · obtain ⟨v, f1, f2⟩ := en.get 0 _ h0
    have f2' : v = V.ref p := f2
    subst f2'
    have h1 := (en.mono e1).set (v := .ref p) (c := .d (potD a b c)) 0 (Rp.lst upd_same (.cons (.int _) (.cons (.int _) (.cons (.int _) .nil))))
    have h2 : σ.set 0 (some (V.ref p)) = σ := by
      apply List.ext_getElem?
      intro k
      by_cases z : 0 = k
      · subst z
        rw [List.getElem?_set_self (List.getElem?_eq_some_iff.mp f1).1, f1]
      · rw [List.getElem?_set_ne z]
    rwa [h2] at h1
/-- a number out of the pot -/
theorem evP {i : Int} {Q : VK} (he : Ey X e (δ.set 0 (some (.d (potD a b c)))) (.d (.int i))) (h : H p = some (.lst [.int a, .int b, .int c])) (eg : Ex G H) (gp : G p = none) (en : En X.K G σ δ) (h0 : δ[0]? = some (some (.v (.ref p)))) (q : ∀ H2, Ex H H2 → Q (.int i) H2) : tW X e σ H Q := by
  obtain ⟨g1, g2⟩ := pot_view h eg gp en h0
  refine he σ H _ Q g1 g2 fun v H2 G2 v2 o2 => ?_
  have o2' : Rp X.K G2 v (.int i) := o2
  cases o2'
  exact q H2 v2.hh
theorem evPT {k : Bool} {Q : Bool → Hp → Prop} (he : Ty X e (δ.set 0 (some (.d (potD a b c)))) k) (h : H p = some (.lst [.int a, .int b, .int c])) (eg : Ex G H) (gp : G p = none) (en : En X.K G σ δ) (h0 : δ[0]? = some (some (.v (.ref p)))) (q : ∀ H2, Ex H H2 → Q k H2) : tWT X e σ H Q := by
  obtain ⟨g1, g2⟩ := pot_view h eg gp en h0
  exact he σ H _ Q g1 g2 fun H2 G2 v2 => q H2 v2.hh
theorem p_ix0 {pos p2 p3 : Pos} {j : Nat} {x : Str} {e : Expr} (h : Ey X e δ (.d (potD a b c))) : Ey X (.Subscript e (.Constant (.int 0) j p2) pos) δ (.d (.int a)) := y_ix (x_lst (ds := [.int a, .int b, .int c]) (i := 0) rfl) h y_int
theorem p_ix1 {pos p2 : Pos} {j : Nat} {e : Expr} (h : Ey X e δ (.d (potD a b c))) : Ey X (.Subscript e (.Constant (.int 1) j p2) pos) δ (.d (.int b)) := y_ix (x_lst (ds := [.int a, .int b, .int c]) (i := 1) rfl) h y_int
theorem p_ix2 {pos p2 : Pos} {j : Nat} {e : Expr} (h : Ey X e δ (.d (potD a b c))) : Ey X (.Subscript e (.Constant (.int 2) j p2) pos) δ (.d (.int c)) := y_ix (x_lst (ds := [.int a, .int b, .int c]) (i := 2) rfl) h y_int
end
/-- what a take keeps -/
def spTake (K : PySem.W.Frag) : Sp := fun vs H Q _ => ∃ (p : Addr) (G : Hp) (u m : Nat), vs = [.ref p, .int (u : Nat)] ∧ 1 ≤ u ∧ u ≤ 1000 ∧ m ≤ 1000 ∧ Ex G H ∧ G p = none ∧ Pot p m H ∧ ∀ (d : Nat) (H2 : Hp), d < u → V1 p H G H2 G → Pot p (m + 1) H2 → Q (.int (d : Nat)) H2
structure Fb (P : Program) (w : World) (K : PySem.W.Frag) (mg : Str → Option Value) (base : Heap) (k : Nat) (x : Str) (sp : Sp) : Prop where
  ex : ∃ (f : Addr) (fd : FuncData) (ps : List Str), FnOk P w K mg base CX0 k f fd ps sp ∧ mg x = some (.ref f) ∧ PySem.W.keepIn K (.ref f) = true ∧ Binds K fd ps []
theorem V1.refl {p : Addr} {H G : Hp} (e : Ex G H) : V1 p H G H G := ⟨fun _ _ _ h => h, Ex.refl G, e, fun _ _ _ n => n⟩
theorem V1.ofEx {p : Addr} {H G H2 : Hp} (e : Ex G H) (h : Ex H H2) : V1 p H G H2 G := ⟨fun x o _ q => h x o q, Ex.refl G, e.trans h, fun _ _ _ n => n⟩
theorem V1.wr {p : Addr} {H G H2 : Hp} {o : HO} (v : V1 p H G H2 G) (gp : G p = none) : V1 p H G (upd H2 p o) G :=
  ⟨fun x u n h => by rw [upd_ne n]; exact v.hh x u n h, Ex.refl G, fun x u h => by rw [upd_ne (ne_of_none h gp)]; exact v.gh x u h, v.nw⟩
theorem bt_of {k : Nat} {i : Int} (h : i.natAbs < 2 ^ k) : Bt k i := h
theorem bt_range {k : Nat} {i : Int} (h0 : 0 ≤ i) (h : i < 2 ^ k) : Bt k i := by
  unfold Bt
  have e : ((2 ^ k : Nat) : Int) = (2 : Int) ^ k := by norm_cast
  omega
section
variable {P : Program} {w : World} {K : PySem.W.Frag} {mg : Str → Option Value} {base : Heap}
theorem ok_take (B : Bl mg) (h : Has K mg "_law_take" s__law_take ["pot", "upto"]) : Fb P w K mg base 1 "_law_take" (spTake K) := by
  obtain ⟨f, fd, hm, F, hb⟩ := h.ex
  refine ⟨f, fd, _, F.ok (k := 0) c__law_take (fun vs H Q E h => ?_) (fun cdv A outer s H vs Q E hr h => ?_), hm, F.kp, hb⟩
  · obtain ⟨p, G, u, m, rfl, _⟩ := h
    rfl
  obtain ⟨p, G, u, m, rfl, u1, u2, hm', eg, gp, ⟨a, b, c, hH, pv⟩, q'⟩ := h
  refine ⟨_, pssW, ?_⟩
  have en : En K G (L2.start ["pot", "upto", "prime", "blend", "digit"] [.ref p, .int (u : Nat)]) (stD ["pot", "upto", "prime", "blend", "digit"] [.v (.ref p), .d (.int (u : Nat))]) := start_en (.cons rfl (.cons (Rp.int _) .nil))
  refine leSs (pss_cons (ps_if ptW pssW pssW) pssW) (evPT (X := bX P w K mg base ["pot", "upto", "prime", "blend", "digit"] "_law_take" s__law_take f cdv A outer s H E) (k := decide (0 < a)) (t_cmp o_gt (p_ix0 (p3 := ⟨0, 0, 0, 0⟩) (x := "") (yv 0)) y_int rfl) hH eg gp en rfl fun H1 e1 => ?_)
  have h1 := e1 _ _ hH
  have eg1 := eg.trans e1
  by_cases ha : 0 < a
  · rw [decide_eq_true ha, if_pos rfl]
    -- digit
    refine leSs (pss_cons (ps_set (X := bX P w K mg base ["pot", "upto", "prime", "blend", "digit"] "_law_take" s__law_take f cdv A outer s H E) (i := 4) c__law_take.nd rfl (.inl rfl) peW rfl (.inl rfl)) pssW) (evP (X := bX P w K mg base ["pot", "upto", "prime", "blend", "digit"] "_law_take" s__law_take f cdv A outer s H E) (i := a % (u : Int)) (y_op (o_mod ?_) (y_t1 c_int B.int (p_ix0 (p3 := ⟨0, 0, 0, 0⟩) (x := "") (yv 0))) (yv 1)) h1 eg1 gp en rfl fun H2 e2 => ?_)
    · omega
    have h2 := e2 _ _ h1
    have en2 := (en.set (v := .int (a % (u : Int))) (c := .d (.int (a % (u : Int)))) 4 (Rp.int _))
    -- pot[0]
    refine leSs (pss_cons (ps_asg (X := bX P w K mg base ["pot", "upto", "prime", "blend", "digit"] "_law_take" s__law_take f cdv A outer s H E) peW (pg_sub (pe_var (i := 0) rfl (.inl rfl)) pe_int set_list)) pssW) (evP (X := bX P w K mg base ["pot", "upto", "prime", "blend", "digit"] "_law_take" s__law_take f cdv A outer s H E) (i := a / (u : Int)) (y_op (o_fdiv ?_) (p_ix0 (p3 := ⟨0, 0, 0, 0⟩) (x := "") (yv 0)) (yv 1)) h2 (eg1.trans e2) gp en2 rfl fun H3 e3 => ?_)
    · refine ⟨by omega, .inl ?_⟩
      rw [Int.natAbs_natCast]
      exact (Nat.log2_lt (by omega)).mpr (Nat.lt_of_le_of_lt u2 (by decide))
    have h3 := e3 _ _ h2
    refine ⟨.ref p, rfl, p, _, 0, 0, rfl, rfl, h3, rfl, ?_⟩
    -- return digit
    refine leSs (pss_one (ps_ret (pe_var (X := bX P w K mg base ["pot", "upto", "prime", "blend", "digit"] "_law_take" s__law_take f cdv A outer s H E) (i := 4) rfl (.inl rfl)))) ⟨_, rfl, ?_⟩
    have hnn : 0 ≤ a % (u : Int) := Int.emod_nonneg _ (by omega)
    have hlt : a % (u : Int) < (u : Int) := Int.emod_lt_of_pos _ (by omega)
    have ed : a % (u : Int) = (((a % (u : Int)).toNat : Nat) : Int) := by omega
    rw [ed]
    refine q' (a % (u : Int)).toNat _ (by omega) ((V1.ofEx eg ((e1.trans e2).trans e3)).wr gp) ⟨a / (u : Int), b, c, upd_same, ⟨Int.ediv_nonneg pv.a0 (by omega), ?_, pv.b0, pv.b1, pv.c0, by have := pv.c1; omega⟩⟩
    have h4 : a / (u : Int) ≤ a := Int.ediv_le_self _ pv.a0
    have h5 : 0 ≤ a / (u : Int) := Int.ediv_nonneg pv.a0 (by omega)
    have := pv.a1
    unfold Bt at this ⊢
    omega
  · rw [decide_eq_false ha, if_neg Bool.false_ne_true]
    refine leSs pss_nil ?_
    have c1 := pv.c1
    have c0 := pv.c0
    -- pot[2]
    refine leSs (pss_cons (ps_asg (X := bX P w K mg base ["pot", "upto", "prime", "blend", "digit"] "_law_take" s__law_take f cdv A outer s H E) peW (pg_sub (pe_var (i := 0) rfl (.inl rfl)) pe_int set_list)) pssW) (evP (X := bX P w K mg base ["pot", "upto", "prime", "blend", "digit"] "_law_take" s__law_take f cdv A outer s H E) (i := c + 1) (y_op o_add (p_ix2 (yv 0)) y_int) h1 eg1 gp en rfl fun H2 e2 => ?_)
    have h2 := e2 _ _ h1
    refine ⟨.ref p, rfl, p, _, 2, 2, rfl, rfl, h2, rfl, ?_⟩
    have w2 := (V1.ofEx eg (e1.trans e2)).wr (o := .lst [.int a, .int b, .int (c + 1)]) gp
    have h3 : upd H2 p (.lst [.int a, .int b, .int (c + 1)]) p = some (.lst [.int a, .int b, .int (c + 1)]) := upd_same
    show tWSs _ _ _ _ (upd H2 p (.lst [.int a, .int b, .int (c + 1)]))
    revert w2 h3
    generalize upd H2 p (.lst [.int a, .int b, .int (c + 1)]) = H3
    intro w2 h3
    -- prime
    have hp : ∃ q : Nat, atI [PyData.int 2147483647, .int 2147483629, .int 2147483587, .int 2147483579] ((c + 1) % 4) = some (.int (q : Nat)) ∧ 0 < q ∧ q < 2 ^ 31 := by
      have h4 : 0 ≤ (c + 1) % 4 := Int.emod_nonneg _ (by decide)
      have h5 : (c + 1) % 4 < 4 := Int.emod_lt_of_pos _ (by decide)
      have h6 : (c + 1) % 4 = 0 ∨ (c + 1) % 4 = 1 ∨ (c + 1) % 4 = 2 ∨ (c + 1) % 4 = 3 := by omega
      rcases h6 with e | e | e | e <;> rw [e]
      · exact ⟨2147483647, rfl, by decide, by decide⟩
      · exact ⟨2147483629, rfl, by decide, by decide⟩
      · exact ⟨2147483587, rfl, by decide, by decide⟩
      · exact ⟨2147483579, rfl, by decide, by decide⟩
    obtain ⟨q, hq, q0, q1⟩ := hp
    refine leSs (pss_cons (ps_set (X := bX P w K mg base ["pot", "upto", "prime", "blend", "digit"] "_law_take" s__law_take f cdv A outer s H E) (i := 2) c__law_take.nd rfl (.inl rfl) peW rfl (.inl rfl)) pssW) (evP (X := bX P w K mg base ["pot", "upto", "prime", "blend", "digit"] "_law_take" s__law_take f cdv A outer s H E) (i := (q : Nat)) (y_ix (x_lst (ds := [.int 2147483647, .int 2147483629, .int 2147483587, .int 2147483579]) hq) (y_lst (ds := [.int 2147483647, .int 2147483629, .int 2147483587, .int 2147483579]) (a_cons y_int (a_cons y_int (a_cons y_int (a_cons y_int a_nil)))) (by show 4 ≤ 1000; decide)) (y_op (o_mod (by decide)) (y_t1 c_int B.int (p_ix2 (yv 0))) y_int)) h3 w2.gh gp en rfl fun H4 e4 => ?_)
    have h4 := e4 _ _ h3
    have en4 := en.set (v := .int (q : Nat)) (c := .d (.int (q : Nat))) 2 (Rp.int _)
    -- blend
    have bc : Bt 11 (c + 1) := bt_range (by omega) (by have : (2 : Int) ^ 11 = 2048 := (by decide); omega)
    have b1 : Bt 30 (147487 * (c + 1)) := ((bt_of (k := 18) (i := 147487) (by decide)).mul bc).mono (by decide)
    have b2 : Bt 41 (147487 * (c + 1) * (c + 1)) := b1.mul bc
    have b3 : Bt 103 (b + 147487 * (c + 1) * (c + 1)) := (pv.b1.add b2).mono (by decide)
    have b4 : Bt 120 (b + 147487 * (c + 1) * (c + 1) + 4231) := (b3.add (bt_of (k := 13) (i := 4231) (by decide))).mono (by decide)
    have mq : ∀ x : Int, 0 ≤ x % (q : Int) ∧ x % (q : Int) < (q : Int) := fun x => ⟨Int.emod_nonneg _ (by omega), Int.emod_lt_of_pos _ (by omega)⟩
    have ibits : ∀ x : Int, Bt 120 x → (Builtin.Int.intBits x : Int) ≤ 121 := fun x hx => by
      have h1 : Builtin.Int.intBits x ≤ x.natAbs.log2 + 1 := by
        unfold Builtin.Int.intBits
        split <;> omega
      have h2 : x.natAbs.log2 < 120 ∨ x.natAbs = 0 := by
        by_cases hz : x.natAbs = 0
        · exact .inr hz
        · exact .inl ((Nat.log2_lt hz).mpr hx)
      rcases h2 with h2 | h2
      · omega
      · rw [h2] at h1
        have : Nat.log2 0 = 0 := by decide
        omega
    refine leSs (pss_cons (ps_set (X := bX P w K mg base ["pot", "upto", "prime", "blend", "digit"] "_law_take" s__law_take f cdv A outer s H E) (i := 3) c__law_take.nd rfl (.inl rfl) peW rfl (.inl rfl)) pssW) (evP (X := bX P w K mg base ["pot", "upto", "prime", "blend", "digit"] "_law_take" s__law_take f cdv A outer s H E) (i := (b + 147487 * (c + 1) * (c + 1) + 4231) ^ 3 % (q : Int)) (y_op (o_mod ?_) (y_t1 c_int B.int (y_op (o_pow ?_) (y_t1 c_int B.int (y_op o_add (y_op o_add (p_ix1 (yv 0)) (y_op (o_mul ?_) (y_op (o_mul ?_) y_int (p_ix2 (yv 0))) (p_ix2 (yv 0)))) y_int)) y_int)) (yv 2)) h4 (w2.gh.trans e4) gp en4 rfl fun H5 e5 => ?_)
    · omega
    · refine ⟨by decide, ?_⟩
      have := ibits _ b4
      have h9 : (2 : Int) ^ 27 = 134217728 := by decide
      omega
    · exact mulOk b1 bc
    · exact mulOk (bt_of (k := 18) (i := 147487) (by decide)) bc
    obtain ⟨m1, m2⟩ := mq ((b + 147487 * (c + 1) * (c + 1) + 4231) ^ 3)
    revert m1 m2
    generalize (b + 147487 * (c + 1) * (c + 1) + 4231) ^ 3 % (q : Int) = z
    intro m1 m2
    have h5 := e5 _ _ h4
    have en5 := en4.set (v := .int z) (c := .d (.int z)) 3 (Rp.int _)
    have bz : Bt 31 z := bt_range m1 (by have : (2 : Int) ^ 31 = 2147483648 := (by decide); have : (q : Int) < 2147483648 := (by omega); omega)
    have bm : Bt 14 (z % 10007) := bt_range (Int.emod_nonneg _ (by decide)) (by have := Int.emod_lt_of_pos z (show (0 : Int) < 10007 from (by decide)); have : (2 : Int) ^ 14 = 16384 := (by decide); omega)
    have b6 : Bt 23 (3433 * (c + 1)) := ((bt_of (k := 12) (i := 3433) (by decide)).mul bc).mono (by decide)
    have b7 : Bt 38 (z % 10007 + 3433 * (c + 1)) := (bm.add b6).mono (by decide)
    -- the digit
    refine leSs (pss_one (ps_ret (X := bX P w K mg base ["pot", "upto", "prime", "blend", "digit"] "_law_take" s__law_take f cdv A outer s H E) peW)) (evP (X := bX P w K mg base ["pot", "upto", "prime", "blend", "digit"] "_law_take" s__law_take f cdv A outer s H E) (i := z * (z % 10007 + 3433 * (c + 1)) / 307 % (u : Int)) (y_op (o_mod ?_) (y_t1 c_int B.int (y_op (o_fdiv ⟨by decide, .inl (by decide)⟩) (y_op (o_mul ?_) (yv 3) (y_op o_add (y_op (o_mod (by decide)) (y_t1 c_int B.int (yv 3)) y_int) (y_op (o_mul ?_) y_int (p_ix2 (yv 0))))) y_int)) (yv 1)) h5 ((w2.gh.trans e4).trans e5) gp en5 rfl fun H6 e6 => ?_)
    · omega
    · exact mulOk bz b7
    · exact mulOk (bt_of (k := 12) (i := 3433) (by decide)) bc
    have h6 := e6 _ _ h5
    have hnn : 0 ≤ z * (z % 10007 + 3433 * (c + 1)) / 307 % (u : Int) := Int.emod_nonneg _ (by omega)
    have hlt : z * (z % 10007 + 3433 * (c + 1)) / 307 % (u : Int) < (u : Int) := Int.emod_lt_of_pos _ (by omega)
    revert hnn hlt
    generalize z * (z % 10007 + 3433 * (c + 1)) / 307 % (u : Int) = dd
    intro hnn hlt
    have ed : dd = ((dd.toNat : Nat) : Int) := by omega
    rw [ed]
    have e46 := (e4.trans e5).trans e6
    refine q' dd.toNat H6 (by omega) ⟨fun x o n hx => e46 x o (w2.hh x o n hx), Ex.refl G, w2.gh.trans e46, w2.nw⟩ ⟨a, b, c + 1, h6, ⟨pv.a0, pv.a1, pv.b0, pv.b1, by omega, by omega⟩⟩
end
end KP
set_option linter.all false
set_option maxRecDepth 100000
set_option maxHeartbeats 4000000
/-! a layer for what may take out of the pot -/
namespace KP
open PySem PySem.Spec PyProof.Rows L2 KW K68
theorem V1.trans {p : Addr} {H G H1 G1 H2 G2 : Hp} {o : HO} (a : V1 p H G H1 G1) (b : V1 p H1 G1 H2 G2) (h : H1 p = some o) : V1 p H G H2 G2 :=
  ⟨fun x u n q => b.hh x u n (a.hh x u n q), a.gg.trans b.gg, b.gh, fun x u q n => by
    by_cases z : x = p
    · rw [z]; exact b.nw p o h (by rw [← z]; exact a.nw x u q n)
    · exact b.nw x u (a.hh x u z q) (a.nw x u q n)⟩
theorem V1.ofVx {p : Addr} {H G H2 G2 : Hp} (v : Vx H G H2 G2) : V1 p H G H2 G2 := ⟨fun x o _ h => v.hh x o h, v.gg, v.gh, v.nw⟩
theorem Pot.keep {p : Addr} {m : Nat} {H H2 : Hp} (h : Pot p m H) (e : Ex H H2) : Pot p m H2 := by
  obtain ⟨a, b, c, x, y⟩ := h
  exact ⟨a, b, c, e _ _ x, y⟩
theorem Pot.up {p : Addr} {m n : Nat} {H : Hp} (h : Pot p m H) (e : m ≤ n) : Pot p n H := by
  obtain ⟨a, b, c, x, y⟩ := h
  exact ⟨a, b, c, x, y.a0, y.a1, y.b0, y.b1, y.c0, by have := y.c1; omega⟩
theorem V1.out {p : Addr} {m : Nat} {H G H2 G2 : Hp} (v : V1 p H G H2 G2) (h : Pot p m H) (n : G p = none) : G2 p = none := by
  obtain ⟨a, b, c, x, y⟩ := h
  exact v.nw _ _ x n
theorem V1.then {p : Addr} {m : Nat} {H G H1 G1 H2 G2 : Hp} (a : V1 p H G H1 G1) (h : Pot p m H1) (b : V1 p H1 G1 H2 G2) : V1 p H G H2 G2 := by
  obtain ⟨_, _, _, x, _⟩ := h
  exact a.trans b x
section
variable (X : Cx)
def rWop (f : Value → Value → Sem Value) : L2.R2 := fun x y H Q => ∀ (pins : List (Addr × Obj)) (s : Shared) (σ : L2.St) (v u : Value), Inv X pins σ H s → RelV x v → RelV y u → wpAny (model X.prog X.w) X.A (f v u) (EP X pins σ Q) X.xe s
def rWix : L2.R2 := fun x y H Q => ∀ (value slice : Expr) (pins : List (Addr × Obj)) (s : Shared) (σ : L2.St) (v u : Value), Inv X pins σ H s → RelV x v → RelV y u → subscripted slice false v u = operate [v, u] (getItem v u) → wpAny (model X.prog X.w) X.A (subscriptTail value slice v u) (EP X pins σ Q) X.xe s
def rWc (f : Value) : List V → Hp → VK → Prop := fun xs H Q => ∀ (pins : List (Addr × Obj)) (s : Shared) (σ : L2.St) (us : List Value), Inv X pins σ H s → Vals xs us → wpAny (model X.prog X.w) X.A (call f us []) (EP X pins σ Q) X.xe s
end
theorem opW {X : Cx} {f : Value → Value → Sem Value} : OpR X f (rWop X f) := fun pins s σ H x y v u Q I rx ry h => h pins s σ v u I rx ry
theorem ixW {X : Cx} : IxR X (rWix X) := fun a b pins s σ H x y v u Q I rx ry h e => h a b pins s σ v u I rx ry e
theorem callW {X : Cx} {f : Value} : CallR X f (rWc X f) := fun pins s σ H xs us Q I r h => h pins s σ us I r
theorem toWop {X : Cx} {f : Value → Value → Sem Value} {r : L2.R2} (h : OpR X f r) {x y : V} {H : Hp} {Q : VK} (q : r x y H Q) : rWop X f x y H Q := fun pins s σ v u I rx ry => h pins s σ H x y v u Q I rx ry q
theorem toWix {X : Cx} {r : L2.R2} (h : IxR X r) {x y : V} {H : Hp} {Q : VK} (q : r x y H Q) : rWix X x y H Q := fun a b pins s σ v u I rx ry e => h a b pins s σ H x y v u Q I rx ry q e
theorem toWc {X : Cx} {f : Value} {r : List V → Hp → VK → Prop} (h : CallR X f r) {xs : List V} {H : Hp} {Q : VK} (q : r xs H Q) : rWc X f xs H Q := fun pins s σ us I rr => h pins s σ H xs us Q I rr q
section
variable (X : Cx) (p : Addr)
/-- e gives some c of R, and takes -/
def Ky (m m2 : Nat) (e : Expr) (δ : DE) (R : Cl → Prop) : Prop := ∀ (σ : L2.St) (H G : Hp) (Q : VK), Ex G H → G p = none → Pot p m H → En X.K G σ δ → (∀ v H2 G2 c, V1 p H G H2 G2 → Pot p m2 H2 → R c → cOk X.K G2 c v → Q v H2) → tW X e σ H Q
def Ka (m m2 : Nat) (es : List Expr) (δ : DE) (R : List Cl → Prop) : Prop := ∀ (σ : L2.St) (H G : Hp) (Q : List V → Hp → Prop), Ex G H → G p = none → Pot p m H → En X.K G σ δ → (∀ vs H2 G2 cs, V1 p H G H2 G2 → Pot p m2 H2 → R cs → CAll X.K G2 cs vs → Q vs H2) → tWA X es σ H Q
end
section
variable {X : Cx} {p : Addr} {m m1 m2 : Nat} {e a b : Expr} {es : List Expr} {δ : DE} {R R1 R2 : Cl → Prop} {S S1' : List Cl → Prop} {c : Cl} {pos : Pos}
theorem k_y (h : Ey X e δ c) (r : R c) : Ky X p m m e δ R := fun σ H G Q eg gp po en q => h σ H G Q eg en fun v H2 G2 w o => q v H2 G2 c (V1.ofVx w) (po.keep w.hh) r o
theorem k_op {op : Operator} (ho : ∀ c1 c2, R1 c1 → R2 c2 → ∃ c, R c ∧ Oy X (binaryOp op) c1 c2 c) (ha : Ky X p m m1 a δ R1) (hb : Ky X p m1 m2 b δ R2) : Ky X p m m2 (.BinOp a op b pos) δ R := fun σ H G Q eg gp po en q => by
  refine leE (pe_op opW peW peW) (ha σ H G _ eg gp po en fun x H1 G1 c1 v1 po1 r1 o1 => hb σ H1 G1 _ v1.gh (v1.out po gp) po1 (en.mono v1.gg) fun y H2 G2 c2 v2 po2 r2 o2 => ?_)
  obtain ⟨c, rc, r, hr, h⟩ := ho c1 c2 r1 r2
  have v12 := v1.then po1 v2
  exact toWop hr (h x y H2 G2 Q v12.gh (o1.mono v2.gg) o2 fun v H3 G3 v3 o3 => q v H3 G3 c (v12.then po2 (V1.ofVx v3)) (po2.keep v3.hh) rc o3)
theorem k_ix (ho : ∀ c1 c2, R1 c1 → R2 c2 → ∃ c, R c ∧ Xy X c1 c2 c) (ha : Ky X p m m1 a δ R1) (hb : Ky X p m1 m2 b δ R2) (hs : PlainIx b := by exact fun _ _ => rfl) : Ky X p m m2 (.Subscript a b pos) δ R := fun σ H G Q eg gp po en q => by
  refine leE (pe_ix ixW peW peW hs) (ha σ H G _ eg gp po en fun x H1 G1 c1 v1 po1 r1 o1 => hb σ H1 G1 _ v1.gh (v1.out po gp) po1 (en.mono v1.gg) fun y H2 G2 c2 v2 po2 r2 o2 => ?_)
  obtain ⟨c, rc, r, hr, h⟩ := ho c1 c2 r1 r2
  have v12 := v1.then po1 v2
  exact toWix hr (h x y H2 G2 Q v12.gh (o1.mono v2.gg) o2 fun v H3 G3 v3 o3 => q v H3 G3 c (v12.then po2 (V1.ofVx v3)) (po2.keep v3.hh) rc o3)
theorem ka_nil (r : S []) : Ka X p m m [] δ S := fun σ H G Q eg gp po en q => leA pa_nil (q [] H G [] (V1.refl eg) po r .nil)
theorem ka_cons (ha : Ky X p m m1 e δ R1) (hr : Ka X p m1 m2 es δ S1') (hS : ∀ c cs, R1 c → S1' cs → S (c :: cs)) (hs : starEach (e :: es) X.env = (false, eval e X.env) :: starEach es X.env := by rfl) : Ka X p m m2 (e :: es) δ S := fun σ H G Q eg gp po en q =>
  leA (pa_cons peW paW hs) (ha σ H G _ eg gp po en fun v H1 G1 c v1 po1 r1 o1 => hr σ H1 G1 _ v1.gh (v1.out po gp) po1 (en.mono v1.gg) fun vs H2 G2 cs v2 po2 r2 o2 => q _ H2 G2 _ (v1.then po1 v2) po2 (hS c cs r1 r2) (.cons (o1.mono v2.gg) o2))
theorem k_tup {x1 : Nat} (h : Ka X p m m2 es δ S) (hS : ∀ cs, S cs → ∃ ds, cs = ds.map .d ∧ ds.length ≤ 1000 ∧ R (.d (.tuple ds))) : Ky X p m m2 (.Tuple es x1 pos) δ R := fun σ H G Q eg gp po en q =>
  leE (pe_tup paW) (h σ H G _ eg gp po en fun vs H1 G1 cs v1 po1 r1 o1 => by
    obtain ⟨ds, rfl, hz, rc⟩ := hS cs r1
    have r := o1.data
    refine ⟨by rw [r.length]; exact Nat.le_of_lt (small1000 hz), fun a hp => ?_⟩
    have v2 : Vx H1 G1 (upd H1 a (.tup vs)) (upd G1 a (.tup vs)) := Vx.new v1.gh hp
    exact q _ _ _ _ (v1.then po1 (V1.ofVx v2)) (po1.keep v2.hh) rc (Rp.tup (SqT.of upd_same) (r.mono v2.gg)))
theorem k_lst (h : Ka X p m m2 es δ S) (hS : ∀ cs, S cs → ∃ ds, cs = ds.map .d ∧ ds.length ≤ 1000 ∧ R (.d (.list ds))) : Ky X p m m2 (.List es pos) δ R := fun σ H G Q eg gp po en q =>
  leE (pe_lst paW) (h σ H G _ eg gp po en fun vs H1 G1 cs v1 po1 r1 o1 => by
    obtain ⟨ds, rfl, hz, rc⟩ := hS cs r1
    have r := o1.data
    refine ⟨by rw [r.length]; exact Nat.le_of_lt (small1000 hz), fun a hp => ?_⟩
    have v2 : Vx H1 G1 (upd H1 a (.lst vs)) (upd G1 a (.lst vs)) := Vx.new v1.gh hp
    exact q _ _ _ _ (v1.then po1 (V1.ofVx v2)) (po1.keep v2.hh) rc (Rp.lst upd_same (r.mono v2.gg)))
theorem k_ty1 {T : String} {x : Str} {q1 : Pos} (hc : ∀ c1, R1 c1 → ∃ c, R c ∧ Cy X (.type T) [c1] c) (hm : X.mg x = none) (h1 : Ky X p m m2 e δ R1) (hv : bootBuiltins x = some (.type T) := by decide +kernel) (hg : Gl X x := by rfl) (hn : x ≠ "__name__" := by decide) (hdb : (x == ("__debug__" : Str)) = false := by decide) (he : starEach [e] X.env = (false, eval e X.env) :: starEach [] X.env := by rfl) : Ky X p m m2 (.Call (.Name x q1) [e] [] pos) δ R := fun σ H G Q eg gp po en q => by
  refine leE (pe_callTy callW hg hm hv (pa_cons peW pa_nil he) hn hdb he rfl) (h1 σ H G _ eg gp po en fun v H1 G1 c1 v1 po1 r1 o1 => ?_)
  obtain ⟨c, rc, r, hr, h⟩ := hc c1 r1
  exact toWc hr (h _ H1 G1 Q v1.gh (.cons o1 .nil) fun v H2 G2 v2 o2 => q v H2 G2 c (v1.then po1 (V1.ofVx v2)) (po1.keep v2.hh) rc o2)
/-- a def that does not know of the pot -/
theorem k_cb {k k' : Nat} {x : Str} {Rf : List Cl → PyData → Prop} {q1 : Pos} (C : Cb X.prog X.w X.K X.mg X.base k x Rf) (hr : Room k' X.A) (hk : k ≤ k') (ha : Ka X p m m2 (e :: es) δ S) (hR : ∀ cs, S cs → ∃ d, Rf cs d ∧ R (.d d)) (hg : Gl X x := by rfl) (hdb : (x == ("__debug__" : Str)) = false := by decide) (he : starEach (e :: es) X.env = (false, eval e X.env) :: starEach es X.env := by rfl) (hpl : (backTo pos (starEach es X.env)).any (·.1) = false := by rfl) : Ky X p m m2 (.Call (.Name x q1) (e :: es) [] pos) δ R := fun σ H G Q eg gp po en q => by
  obtain ⟨f, fd, ps, F, hm, hkp, hb⟩ := C.ex
  refine leE (pe_call (F.mono hk) hr hg hm hkp hb .nil pass0 paW hdb he hpl) (ha σ H G _ eg gp po en fun vs H1 G1 cs v1 po1 r1 o1 => ?_)
  rw [List.append_nil]
  obtain ⟨d, hd, rd⟩ := hR cs r1
  exact ⟨G1, cs, d, v1.gh, o1, hd, fun v H2 G2 v2 o2 => q v H2 G2 _ (v1.then po1 (V1.ofVx v2)) (po1.keep v2.hh) rd o2⟩
/-- what a def with the pot keeps: t takes at most -/
def spK (K : PySem.W.Frag) (Rf : List Cl → Nat → (PyData → Prop) → Prop) : Sp := fun vs H Q _ => ∃ (p : Addr) (G : Hp) (m t : Nat) (us : List V) (cs : List Cl) (D : PyData → Prop), vs = .ref p :: us ∧ m + t ≤ 1001 ∧ Ex G H ∧ G p = none ∧ Pot p m H ∧ CAll K G cs us ∧ Rf cs t D ∧ ∀ (v : V) (H2 G2 : Hp) (d : PyData), V1 p H G H2 G2 → Pot p (m + t) H2 → Rp K G2 v d → D d → Q v H2
theorem k_fb {k k' t : Nat} {x : Str} {Rf : List Cl → Nat → (PyData → Prop) → Prop} {q1 : Pos} (C : Fb X.prog X.w X.K X.mg X.base k x (spK X.K Rf)) (hr : Room k' X.A) (hk : k ≤ k') (ha : Ka X p m m1 (e :: es) δ S) (hR : ∀ cs, S cs → ∃ cs' D, cs = .v (.ref p) :: cs' ∧ Rf cs' t D ∧ ∀ d, D d → R (.d d)) (hm2 : m1 + t = m2) (h1000 : m2 ≤ 1001) (hg : Gl X x := by rfl) (hdb : (x == ("__debug__" : Str)) = false := by decide) (he : starEach (e :: es) X.env = (false, eval e X.env) :: starEach es X.env := by rfl) (hpl : (backTo pos (starEach es X.env)).any (·.1) = false := by rfl) : Ky X p m m2 (.Call (.Name x q1) (e :: es) [] pos) δ R := fun σ H G Q eg gp po en q => by
  obtain ⟨f, fd, ps, F, hm, hkp, hb⟩ := C.ex
  refine leE (pe_call (F.mono hk) hr hg hm hkp hb .nil pass0 paW hdb he hpl) (ha σ H G _ eg gp po en fun vs H1 G1 cs v1 po1 r1 o1 => ?_)
  rw [List.append_nil]
  obtain ⟨cs', D, rfl, hd, rd⟩ := hR cs r1
  subst hm2
  cases o1 with
  | cons o1 o2 =>
    have o1' : _ = V.ref p := o1
    subst o1'
    exact ⟨p, G1, m1, t, _, cs', D, rfl, h1000, v1.gh, v1.out po gp, po1, o2, hd, fun v H2 G2 d v2 po2 o3 dd => q v H2 G2 _ (v1.then po1 v2) po2 (rd d dd) o3⟩
end
/-- a take -/
def R_take (cs : List Cl) (t : Nat) (D : PyData → Prop) : Prop := ∃ u : Nat, cs = [.d (.int (u : Nat))] ∧ 1 ≤ u ∧ u ≤ 1000 ∧ t = 1 ∧ D = fun d => ∃ i : Nat, i < u ∧ d = .int (i : Nat)
theorem takeK {P : Program} {w : World} {K : PySem.W.Frag} {mg : Str → Option Value} {base : Heap} (h : Fb P w K mg base 1 "_law_take" (spTake K)) : Fb P w K mg base 1 "_law_take" (spK K R_take) := by
  obtain ⟨f, fd, ps, F, hm, hk, hb⟩ := h.ex
  refine ⟨f, fd, ps, F.imp fun vs H Q E h => ?_, hm, hk, hb⟩
  obtain ⟨p, G, m, t, us, cs, D, rfl, hm', eg, gp, po, o, ⟨u, rfl, u1, u2, rfl, rfl⟩, q⟩ := h
  cases o with
  | cons o1 o2 =>
    cases o2
    have o1' : Rp K G _ (.int (u : Nat)) := o1
    cases o1'
    exact ⟨p, G, u, m, rfl, u1, u2, by omega, eg, gp, po, fun d H2 hd v2 po2 => q _ H2 G _ v2 po2 (Rp.int _) ⟨d, hd, rfl⟩⟩
end KP
set_option linter.all false
set_option maxRecDepth 100000
set_option maxHeartbeats 4000000
/-! the pot: comprehensions and statements -/
namespace KP
open PySem PySem.Spec PyProof.Rows L2 KW K68
theorem V1.settle {K : PySem.W.Frag} {H G H2 G2 : Hp} {p D : Addr} {vs : List V} {ds : List PyData} (v : V1 p H G H2 G2) (hD : H D = none) (np : G2 D = none) (h2 : H2 D = some (.lst vs)) (r : RpAll K G2 vs ds) : ∃ G3, V1 p H G H2 G3 ∧ Rp K G3 (.ref D) (.list ds) ∧ Ex G2 G3 := by
  have e : Ex G2 (upd G2 D (.lst vs)) := Ex.new np
  refine ⟨upd G2 D (.lst vs), ⟨v.hh, v.gg.trans e, fun a o q => ?_, fun a o h n => ?_⟩, .lst upd_same (r.mono e), e⟩
  · by_cases z : a = D
    · rw [z, upd_same] at q
      rw [z, h2]
      exact q
    · rw [upd_ne z] at q
      exact v.gh a o q
  · rw [upd_ne (ne_of_none h hD)]
    exact v.nw a o h n
section
variable {X : Cx} {p : Addr} {m m1 m2 t : Nat} {e a b elt iter : Expr} {es : List Expr} {δ δ' : DE} {R R1 R2 : Cl → Prop} {S S1' : List Cl → Prop} {c : Cl} {pos px : Pos} {scope : Scope} {ds : List PyData} {Re : PyData → Prop}
theorem lcK_run {wi : TI} {j : Nat}
    (hw : ∀ (σ : L2.St) (H G : Hp) (R : It → Hp → Prop), Ex G H → En X.K G σ δ → (∀ J H1 G1, Vx H G H1 G1 → ItOk X.K J G1 ds → R J H1) → wi σ H R)
    (hz : ds.length ≤ 10000) (h : ∀ (i : Nat) (d : PyData), ds[i]? = some d → ∀ s H0 C cl fp, Ky (BX X scope s H0 C cl fp) p (m + i * t) (m + (i + 1) * t) elt (δ.set j (some (.d d))) (fun c => ∃ r, c = .d r ∧ Re r)) (σ : L2.St) (H G : Hp) (Q : VK) (eg : Ex G H) (gp : G p = none) (po : Pot p m H) (en : En X.K G σ δ)
    (q : ∀ D H2 G2 rs, V1 p H G H2 G2 → Pot p (m + ds.length * t) H2 → rs.length = ds.length → (∀ r ∈ rs, Re r) → Rp X.K G2 (.ref D) (.list rs) → Q (.ref D) H2) : tLc wi (gName j) tYes (tB X scope elt) [j] σ H Q := by
  refine hw σ H G _ eg en fun J H1 G1 v1 ok D hD => ?_
  have hD0 : H D = none := v1.hh.back hD
  have po1 := po.keep v1.hh
  have gp1 := (V1.ofVx v1).out po gp
  have pD : p ≠ D := by
    obtain ⟨_, _, _, x, _⟩ := po1
    exact ne_of_none x hD
  have gD : G1 D = none := v1.gh.back hD
  refine ⟨fun i n H' => n = ds.length - i ∧ i ≤ ds.length ∧ ∃ G' vs rs, V1 p H1 G1 H' G' ∧ Pot p (m + i * t) H' ∧ G' D = none ∧ H' D = some (.lst vs) ∧ RpAll X.K G' vs rs ∧ rs.length = i ∧ ∀ r ∈ rs, Re r, ⟨ds.length, by omega, Nat.zero_le _, G1, [], [], (V1.ofVx (Vx.mut v1.gh hD)), ?_, gD, upd_same, .nil, rfl, fun r h => by cases h⟩, ?_⟩
  · rw [Nat.zero_mul]
    exact po1.keep (Ex.new hD)
  rintro i n H' ⟨rfl, hi, G', vs, rs, v', po', nD, hDl, rA, lr, re⟩
  have gp' := v'.out po1 gp1
  by_cases hlt : i < ds.length
  · refine .inr ⟨ok.go i _ H' G' v'.gg v'.gh (List.getElem?_eq_getElem hlt), fun H2 => (i + 1 ≤ ds.length ∧ ∃ G' vs rs, V1 p H1 G1 H2 G' ∧ Pot p (m + (i + 1) * t) H2 ∧ G' D = none ∧ H2 D = some (.lst vs) ∧ RpAll X.K G' vs rs ∧ rs.length = i + 1 ∧ ∀ r ∈ rs, Re r), fun H2 ⟨l, h⟩ => ⟨ds.length - (i + 1), by omega, rfl, l, h⟩, fun x H2 y => ?_⟩
    obtain ⟨G2, v2, r2⟩ := ok.yld i _ H' G' x H2 v'.gg v'.gh (List.getElem?_eq_getElem hlt) y
    have en2 : En X.K G2 (σ.set j (some x)) (δ.set j (some (.d ds[i]))) := (((en.mono v1.gg).mono v'.gg).mono v2.gg).set j r2
    have es : (L2.wipe σ [j]).set j (some x) = σ.set j (some x) := by
      show (σ.set j none).set j (some x) = _
      rw [List.set_set]
    refine ⟨?_, ?_⟩
    · show ((σ.set j none).set j (some x)).set j none = σ.set j none
      rw [List.set_set, List.set_set]
    · show tB X scope elt ((L2.wipe σ [j]).set j (some x)) H2 _
      intro s H0 C cl fp
      have po2 := po'.keep v2.hh
      have w2 := v'.then po' (V1.ofVx v2)
      show tW _ elt ((L2.wipe σ [j]).set j (some x)) H2 _
      rw [es]
      refine h i _ (List.getElem?_eq_getElem hlt) s H0 C cl fp _ H2 G2 _ v2.gh (w2.out po1 gp1) po2 en2 fun u H5 G5 c v5 po5 ⟨z, ez, rz⟩ o5 => ?_
      subst ez
      have o5' : Rp X.K G5 u z := o5
      have w5 := w2.then po2 v5
      have hD2 := v2.hh _ _ hDl
      have hD5 := v5.hh D _ (Ne.symm pD) hD2
      have nD5 : G5 D = none := v5.nw D _ hD2 (v2.nw D _ hDl nD)
      have l1 := rA.length
      refine ⟨vs, hD5, Nat.lt_of_le_of_lt (show vs.length ≤ 10000 by omega) (by decide), by omega, G5, vs ++ [u], rs ++ [z], ⟨fun a o na q' => ?_, w5.gg, fun a o q' => ?_, w5.nw⟩, ?_, nD5, upd_same, ?_, by rw [List.length_append, lr]; rfl, fun r hr => ?_⟩
      · rw [upd_ne (ne_of_none q' hD)]
        exact w5.hh a o na q'
      · rw [upd_ne (ne_of_none q' nD5)]
        exact w5.gh a o q'
      · obtain ⟨ia, ib, ic, x5, y5⟩ := po5
        exact ⟨ia, ib, ic, by rw [upd_ne pD]; exact x5, y5⟩
      · exact (rA.mono (v2.gg.trans v5.gg)).append (.cons o5' .nil)
      · rcases List.mem_append.mp hr with k | k
        · exact re r k
        · rw [List.mem_singleton.mp k]; exact rz
  · have e : i = ds.length := by omega
    subst e
    have w := (V1.ofVx v1).then po1 v'
    obtain ⟨G3, v3, r3, _⟩ := w.settle hD0 nD hDl rA
    exact .inl ⟨ok.stop _ H' G' v'.gg v'.gh (Nat.le_refl _), q D H' G3 rs v3 po' lr re r3⟩
theorem k_lcN (hN : X.N.Nodup) (j : Nat) {x : Str} (hi : Iy X (.Name x px) iter δ ds) (ok : BlkOk X.N X.env.scope scope [(x, j)]) (h : ∀ (i : Nat) (d : PyData), ds[i]? = some d → ∀ s H0 C cl fp, Ky (BX X scope s H0 C cl fp) p (m + i * t) (m + (i + 1) * t) elt (δ.set j (some (.d d))) (fun c => ∃ r, c = .d r ∧ Re r))
    (hz : ds.length ≤ 10000) (hm2 : m + ds.length * t = m2) (hl : Loc (relabel scope X.env) x := by exact .inl rfl) (hf : (relabel scope X.env).names.lookup x = some .local := by rfl) (hc : X.calm = true := by rfl) (hj : X.N[j]? = some x := by rfl) (hs : ∀ x, foldedSetIterable iter X.env x = pure x := by intro _; rfl) :
    Ky X p m m2 (.ListComp elt [⟨.Name x px, iter, [], 0⟩] scope pos) δ (fun c => ∃ rs, c = .d (.list rs) ∧ rs.length = ds.length ∧ ∀ r ∈ rs, Re r) := fun σ H G Q eg gp po en q => by
  subst hm2
  obtain ⟨wi, hwi, hw⟩ := hi
  exact leE (pe_lc (te := tB X scope elt) hc hN hwi ok (fun s H C cl fp => pg_name hN hj hl (.inr hf)) (fun s H C cl fp => pts_nil) (fun s H0 C cl fp => ⟨fun pins s2 σ H Q I h => h s H0 C cl fp pins s2 I⟩) hs) (lcK_run hw hz h σ H G Q eg gp po en fun D H2 G2 rs v po2 l re r => q _ H2 G2 _ v po2 ⟨rs, rfl, l, re⟩ r)
structure Pk where
  nx : DE → Nat → Prop
  rt : Cl → Nat → Prop
structure Mk (K : PySem.W.Frag) (p : Addr) (D : Ends) (P : Pk) (H G : Hp) : Prop where
  nx : ∀ σ2 H2 G2 δ2 n, V1 p H G H2 G2 → Pot p n H2 → En K G2 σ2 δ2 → P.nx δ2 n → D.nx σ2 H2
  rt : ∀ v H2 G2 c n, V1 p H G H2 G2 → Pot p n H2 → cOk K G2 c v → P.rt c n → D.rt v H2
theorem Mk.mono {K : PySem.W.Frag} {D : Ends} {P : Pk} {H G H1 G1 : Hp} (k : Mk K p D P H G) (v : V1 p H G H1 G1) (po : Pot p m H1) : Mk K p D P H1 G1 :=
  ⟨fun σ2 H2 G2 δ2 n w => k.nx σ2 H2 G2 δ2 n (v.then po w), fun u H2 G2 c n w => k.rt u H2 G2 c n (v.then po w)⟩
def Ks (X : Cx) (p : Addr) (m : Nat) (sts : List Stmt) (δ : DE) (P : Pk) : Prop := ∀ (σ : L2.St) (H G : Hp) (D : Ends), Ex G H → G p = none → Pot p m H → En X.K G σ δ → Mk X.K p D P H G → tWSs X sts D σ H
variable {P : Pk} {st : Stmt} {sts : List Stmt}
theorem ks_nil (h : P.nx δ m) : Ks X p m [] δ P := fun σ H G D eg gp po en k => leSs pss_nil (k.nx σ H G δ m (V1.refl eg) po en h)
/-- a statement that does not take -/
theorem ks_det (h : S1 X st δ { nx := fun δ' => Ks X p m sts δ' P, rt := fun c => P.rt c m }) : Ks X p m (st :: sts) δ P := fun σ H G D eg gp po en k =>
  leSs (pss_cons psW pssW) (h σ H G _ eg en ⟨fun σ2 H2 G2 δ2 v e2 q => q σ2 H2 G2 D v.gh ((V1.ofVx v).out po gp) (po.keep v.hh) e2 (k.mono (V1.ofVx v) (po.keep v.hh)), fun u H2 G2 c v o q => k.rt u H2 G2 c m (V1.ofVx v) (po.keep v.hh) o q, fun _ _ _ _ _ _ z => z.elim, fun _ _ _ _ _ _ z => z.elim⟩)
theorem ks_set {i : Nat} {x : Str} {pos' : Pos} (hN : X.N.Nodup) (hi : X.N[i]? = some x) (hx : Loc X.env.scope x) (he : Ky X p m m1 e δ R) (q : ∀ c, R c → Ks X p m1 sts (δ.set i (some c)) P) (hs : swapsWith e (some (.Name x pos')) pos.line X.env = pure false := by rfl)
    (hf : X.fn x = true ∨ X.env.scope.names.lookup x = some .local := by first | exact .inl rfl | exact .inr rfl | assumption) : Ks X p m (.Assign [.Name x pos'] e pos :: sts) δ P := fun σ H G D eg gp po en k =>
  leSs (pss_cons (ps_set hN hi hx peW hs hf) pssW) (he σ H G _ eg gp po en fun v H1 G1 c v1 po1 rc o1 => q c rc _ H1 G1 D v1.gh (v1.out po gp) po1 ((en.mono v1.gg).set i o1) (k.mono v1 po1))
theorem ks_setLc {i j : Nat} {x y : Str} {py spos : Pos} (hN : X.N.Nodup) (hy : X.N[i]? = some y) (hyl : X.env.scope.names.lookup y = some .local)
    (hsw : swapsWith (.ListComp elt [⟨.Name x px, iter, [], 0⟩] scope pos) (some (.Name y py)) spos.line X.env = pure true) (hi : Iy X (.Name x px) iter δ ds) (ok : BlkOk X.N X.env.scope scope [(x, j)]) (h : ∀ (i : Nat) (d : PyData), ds[i]? = some d → ∀ s H0 C cl fp, Ky (BX X scope s H0 C cl fp) p (m + i * t) (m + (i + 1) * t) elt (δ.set j (some (.d d))) (fun c => ∃ r, c = .d r ∧ Re r))
    (hz : ds.length ≤ 10000) (hm2 : m + ds.length * t = m2) (q : ∀ rs, rs.length = ds.length → (∀ r ∈ rs, Re r) → Ks X p m2 sts (δ.set i (some (.d (.list rs)))) P) (hl : Loc (relabel scope X.env) x := by exact .inl rfl) (hf : (relabel scope X.env).names.lookup x = some .local := by rfl) (hc : X.calm = true := by rfl) (hj : X.N[j]? = some x := by rfl) (hs : ∀ x, foldedSetIterable iter X.env x = pure x := by intro _; rfl) :
    Ks X p m (.Assign [.Name y py] (.ListComp elt [⟨.Name x px, iter, [], 0⟩] scope pos) spos :: sts) δ P := fun σ H G D eg gp po en k => by
  subst hm2
  obtain ⟨wi, hwi, hw⟩ := hi
  refine leSs (pss_cons (ps_setLc (te := tB X scope elt) hc hN hy hyl hsw hwi ok (fun s H C cl fp => pg_name hN hj hl (.inr hf)) (fun s H C cl fp => pts_nil) (fun s H0 C cl fp => ⟨fun pins s2 σ H Q I h => h s H0 C cl fp pins s2 I⟩) hs) pssW) ?_
  exact (lcK_run hw hz h σ H G (fun v H1 => tWSs X sts D (σ.set i (some v)) H1) eg gp po en fun A H2 G2 rs v po2 l re r => q rs l re _ H2 G2 D v.gh (v.out po gp) po2 ((en.mono v.gg).set (c := .d (.list rs)) i r) (k.mono v po2))
/-- two names at once -/
theorem ks_par {i j : Nat} {x y : Str} {px py pt : Pos} {kt k2 : Nat} {pt2 : Pos} (hc : X.calm = true) (hN : X.N.Nodup) (hi : X.N[i]? = some x) (hj : X.N[j]? = some y) (hij : i ≠ j)
    (hx : X.env.scope.names.lookup x = some .local) (hy : X.env.scope.names.lookup y = some .local) (ha : Ka X p m m1 [a, b] δ S) (q : ∀ cs, S cs → ∃ c1 c2, cs = [c1, c2] ∧ Ks X p m1 sts ((δ.set i (some c1)).set j (some c2)) P)
    (hw : swappedStores [.Tuple [.Name x px, .Name y py] kt pt] (.Tuple [a, b] k2 pt2) X.env = pure (some [x, y]) := by rfl)
    (hs : swapsWithSole [.Tuple [.Name x px, .Name y py] kt pt] (.Tuple [a, b] k2 pt2) pos.line X.env = pure false := by rfl) : Ks X p m (.Assign [.Tuple [.Name x px, .Name y py] kt pt] (.Tuple [a, b] k2 pt2) pos :: sts) δ P := fun σ H G D eg gp po en k =>
  leSs (pss_cons (ps_par hc hN hi hj hij hx hy paW hw hs) pssW) (ha σ H G _ eg gp po en fun vs H1 G1 cs v1 po1 r1 o1 => by
    obtain ⟨c1, c2, rfl, hk⟩ := q cs r1
    cases o1 with
    | cons o1 r =>
      cases r with
      | cons o2 r =>
        cases r
        exact ⟨_, _, rfl, hk _ H1 G1 D v1.gh (v1.out po gp) po1 (((en.mono v1.gg).set i o1).set j o2) (k.mono v1 po1)⟩)
theorem ks_ret (he : Ky X p m m1 e δ R) (q : ∀ c, R c → P.rt c m1) : Ks X p m [.Return (some e) pos] δ P := fun σ H G D eg gp po en k =>
  leSs (pss_one (ps_ret peW)) (he σ H G _ eg gp po en fun v H1 G1 c v1 po1 rc o1 => k.rt v H1 G1 c m1 v1 po1 o1 (q c rc))
end
end KP
set_option linter.all false
set_option maxRecDepth 100000
set_option maxHeartbeats 4000000
/-! defs with the pot -/
namespace KP
open PySem PySem.Spec PyProof.Rows L2 KW K68
section
variable {P : Program} {w : World} {K : PySem.W.Frag} {mg : Str → Option Value} {base : Heap}
theorem Fb.of {Rf : List Cl → Nat → (PyData → Prop) → Prop} {x : Str} {st : Stmt} {N ps : List Str} {k : Nat} (h : Has K mg x st ps) (S : FnScope N ps (defScope st)) (hlen : ∀ cs t D, Rf cs t D → cs.length + 1 = ps.length)
    (hbody : ∀ (f : Addr) (cdv : Value) (A : Around) (outer : List Env) (s : Shared) (H : Hp) (E : XK), Room k (bX P w K mg base N x st f cdv A outer s H E).A → ∀ p cs t D m, Rf cs t D → m + t ≤ 1001 → Ks (bX P w K mg base N x st f cdv A outer s H E) p m (defBody st) (stD N (.v (.ref p) :: cs)) { nx := fun _ n => n ≤ m + t ∧ D .none, rt := fun c n => n ≤ m + t ∧ ∃ d, c = .d d ∧ D d }) :
    Fb P w K mg base (k + 1) x (spK K Rf) := by
  obtain ⟨f, fd, hm, F, hb⟩ := h.ex
  refine ⟨f, fd, ps, F.ok (k := k) S (fun vs H Q E h => ?_) (fun cdv A outer s H vs Q E hr h => ?_), hm, F.kp, hb⟩
  · obtain ⟨p, G, m, t, us, cs, D, rfl, hm', eg, gp, po, o, hR, q⟩ := h
    rw [List.length_cons, ← CAll.len o]
    exact hlen cs t D hR
  · obtain ⟨p, G, m, t, us, cs, D, rfl, hm', eg, gp, po, o, hR, q⟩ := h
    refine ⟨_, pssW, hbody f cdv A outer s H E hr p cs t D m hR hm' (L2.start N (.ref p :: us)) H G _ eg gp po (start_en (.cons rfl o)) ⟨fun σ2 H2 G2 δ2 n v po2 en pn => ?_, fun v H2 G2 c n v2 po2 o pn => ?_⟩⟩
    · exact q .non H2 G2 .none v (po2.up pn.1) Rp.non pn.2
    · obtain ⟨pn, d, rfl, hd⟩ := pn
      exact q v H2 G2 d v2 (po2.up pn) o hd
def R_of (cs : List Cl) (t : Nat) (D : PyData → Prop) : Prop := ∃ ds, cs = [.d (.list ds)] ∧ 1 ≤ ds.length ∧ ds.length ≤ 1000 ∧ t = 1 ∧ D = fun d => d ∈ ds
theorem ok_of (B : Bl mg) (h : Has K mg "_law_of" s__law_of ["pot", "some"]) (ht : Fb P w K mg base 1 "_law_take" (spK K R_take)) : Fb P w K mg base 2 "_law_of" (spK K R_of) := by
  refine Fb.of (k := 1) h c__law_of (fun cs t D h => by obtain ⟨_, rfl, _⟩ := h; rfl) fun f cdv A outer s H E hr p cs t D m h hm => ?_
  obtain ⟨ds, rfl, l1, l2, rfl, rfl⟩ := h
  refine ks_ret (m1 := m + 1) (R := fun c => ∃ d, c = .d d ∧ d ∈ ds) (k_ix (R1 := fun c => c = .d (.list ds)) (R2 := fun c => ∃ i : Nat, i < ds.length ∧ c = .d (.int (i : Nat))) (fun c1 c2 h1 h2 => ?_) (k_y (yv 1) rfl) (k_fb (S := fun cs => cs = [.v (.ref p), .d (.int (ds.length : Nat))]) (t := 1) ht hr (by decide) (ka_cons (R1 := fun c => c = .v (.ref p)) (S1' := fun cs => cs = [.d (.int (ds.length : Nat))]) (k_y (yv 0) rfl) (ka_cons (R1 := fun c => c = .d (.int (ds.length : Nat))) (S1' := fun cs => cs = []) (k_y (y_b1 c_lenL B.len (yv 1)) rfl) (ka_nil rfl) (fun c cs h1 h2 => by rw [h1, h2])) (fun c cs h1 h2 => by rw [h1, h2])) (fun cs h1 => ⟨_, _, h1, ⟨ds.length, rfl, l1, l2, rfl, rfl⟩, fun d hd => ?_⟩) rfl hm)) (fun c hc => ⟨Nat.le_refl _, hc⟩)
  · subst h1
    obtain ⟨i, hi, rfl⟩ := h2
    exact ⟨.d ds[i], ⟨_, rfl, List.getElem_mem hi⟩, x_lst (atI_nat (List.getElem?_eq_getElem hi))⟩
  · obtain ⟨i, hi, rfl⟩ := hd
    exact ⟨i, hi, rfl⟩
end
end KP
set_option linter.all false
set_option maxRecDepth 100000
set_option maxHeartbeats 4000000
/-! the pot: y = []; for x in ..: y.append(e) -/
namespace KP
open PySem PySem.Spec PyProof.Rows L2 KW K68
section
variable {X : Cx} {p : Addr} {m m2 t : Nat} {e iter : Expr} {δ : DE} {P : Pk} {sts : List Stmt} {p1 p3 p4 p5 q2 q3 q4 q5 q7 : Pos} {ds : List PyData} {Re : PyData → Prop}
theorem ks_foundN {j j1 : Nat} {y x1 : Str} (hp : PassesOwn (model X.prog X.w) X.A X.env X.xe) (hc : X.calm = true) (hN : X.N.Nodup) (hj : X.N[j]? = some y) (hj1 : X.N[j1]? = some x1) (hy : Loc X.env.scope y) (hx1 : Loc X.env.scope x1) (n1 : j ≠ j1)
    (hf : X.fn y = true) (hf1 : X.fn x1 = true) (hv : Vis X.env.scope y)
    (hi : Iy X (.Name x1 p1) iter (δ.set j none) ds) (hz : ds.length ≤ 10000) (hjl : j < δ.length)
    (h : ∀ (i : Nat) (d : PyData), ds[i]? = some d → Ky X p (m + i * t) (m + (i + 1) * t) e ((δ.set j none).set j1 (some (.d d))) (fun c => ∃ r, c = .d r ∧ Re r)) (hm2 : m + ds.length * t = m2)
    (hr : ∀ o1 rs, rs.length = ds.length → (∀ r ∈ rs, Re r) → Ks X p m2 sts (((δ.set j none).set j1 o1).set j (some (.d (.list rs)))) P)
    (hs1 : swapsWith (.List [] p3) (some (.Name y p4)) p5.line X.env = pure false := by rfl) (hfs : ∀ x, foldedSetIterable iter X.env x = pure x := by intro _; rfl)
    (hs : swapsWith (.Call (.Attribute (.Name y q2) "append" q3) [e] [] q4) none q5.line X.env = pure false := by rfl) (hd : (y == ("__debug__" : Str)) = false := by decide) (hcd : (y == ("__classdict__" : Str)) = false := by decide)
    (hbase : attributeBase (.Name y q2) "append" X.env (eval (.Name y q2) X.env) = eval (.Name y q2) X.env := by rfl)
    (hfew : ((backTo q4 (starEach [e] X.env)).all (fun x => !x.1) && (backToKw q4 (keywordEach [] X.env)).all (fun x => x.1.isSome) && decide (([e] : List Expr).length + ([] : List Keyword).length + (if ([] : List Keyword).isEmpty then 0 else 1) < 30)) = true := by rfl)
    (hline : (q3.endLine == q4.line) = true := by rfl) (hse : starEach [e] X.env = (false, eval e X.env) :: starEach [] X.env := by rfl) :
    Ks X p m (.Assign [.Name y p4] (.List [] p3) p5 :: .For (.Name x1 p1) iter [.Expr (.Call (.Attribute (.Name y q2) "append" q3) [e] [] q4) q5] [] q7 :: sts) δ P := fun σ H G D eg gp po en k => by
  subst hm2
  refine leSs (pss_cons (ps_set hN hj hy (pe_lst pa_nil) hs1 (.inl hf)) (pss_cons psW pssW)) ⟨Nat.zero_le _, fun A hA => ?_⟩
  have gA : G A = none := eg.back hA
  have vA : Vx H G (upd H A (.lst [])) G := Vx.mut eg hA
  have jl : j < σ.length := by rw [en.len]; exact hjl
  have en0 : En X.K G (σ.set j (some (.ref A))) (δ.set j none) := en.forget j (some (.ref A))
  have pA : p ≠ A := by
    obtain ⟨_, _, _, x, _⟩ := po
    exact ne_of_none x hA
  have po0 : Pot p m (upd H A (.lst [])) := po.keep (Ex.new hA)
  have same : ∀ (l : DE) (k : Nat), l.set k (l[k]?.getD none) = l := fun l k => by
    apply List.ext_getElem?
    intro i
    by_cases z : k = i
    · subst z
      by_cases hk : k < l.length
      · rw [List.getElem?_set_self hk, List.getElem?_eq_getElem hk]; rfl
      · rw [List.getElem?_eq_none (by rw [List.length_set]; omega), List.getElem?_eq_none (by omega)]
    · rw [List.getElem?_set_ne z]
  refine for_run (G := G) (g := gName j1) (δ := δ.set j none) (ds := ds) (fun i σ' H' G' => ∃ vs rs o1, V1 p H G H' G' ∧ Pot p (m + i * t) H' ∧ G' A = none ∧ H' A = some (.lst vs) ∧ RpAll X.K G' vs rs ∧ rs.length = i ∧ (∀ r ∈ rs, Re r) ∧ En X.K G' σ' ((δ.set j none).set j1 o1) ∧ σ'[j]? = some (some (.ref A))) hi (pg_name hN hj1 hx1 (.inl hf1)) hp hc vA.gh en0 (fun H1 G1 v1 => ?_) (fun i σ' H' G' h => by obtain ⟨_, _, _, v, _⟩ := h; exact v.gh) (fun i d σ' H' G' hd' hI v H2 G2 v2 r2 N hN' => ?_) (fun σ' H' G' hI => ?_) hfs
  · refine ⟨[], [], (δ.set j none)[j1]?.getD none, V1.ofVx (vA.trans v1), ?_, v1.nw A _ upd_same gA, v1.hh _ _ upd_same, .nil, rfl, fun r hr => (by cases hr), ?_, List.getElem?_set_self jl⟩
    · rw [Nat.zero_mul]
      exact po0.keep v1.hh
    · rw [same]
      exact en0.mono v1.gg
  · obtain ⟨vs, rs, o1, v', po', gA', hA', rA, lr, re, en', sj⟩ := hI
    have w2 := v'.then po' (V1.ofVx v2)
    have po2 := po'.keep v2.hh
    have hA2 := v2.hh _ _ hA'
    have en2 : En X.K G2 (σ'.set j1 (some v)) ((δ.set j none).set j1 (some (.d d))) := by
      have := (en'.mono v2.gg).set (c := .d d) j1 r2
      rwa [List.set_set] at this
    have sj2 : (σ'.set j1 (some v))[j]? = some (some (.ref A)) := by rw [List.getElem?_set_ne (Ne.symm n1)]; exact sj
    have il : i < ds.length := (List.getElem?_eq_some_iff.mp hd').1
    have l1 := rA.length
    refine leSs (pss_one (ps_expr (pe_bm PySem.F.plainAttrs_list PySem.F.slot_list_append PySem.F.type_list_append mt_append (pe_var hj hv hd hcd) (pa_cons peW pa_nil hse) hbase hfew hline hse rfl) hs)) ?_
    refine ⟨.ref A, sj2, .inl ⟨rfl, _, .inl (.inl hA2)⟩, h i d hd' _ H2 G2 _ v2.gh (w2.out po gp) po2 en2 fun u H5 G5 c v5 po5 ⟨z, ez, rz⟩ o5 => ?_⟩
    subst ez
    have o5' : Rp X.K G5 u z := o5
    have w5 := w2.then po2 v5
    have hA5 := v5.hh A _ (Ne.symm pA) hA2
    have gA5 : G5 A = none := v5.nw A _ hA2 (v2.nw A _ hA' gA')
    refine ⟨A, vs, u, rfl, rfl, hA5, Nat.lt_of_le_of_lt (show vs.length ≤ 10000 by omega) (by decide), ?_⟩
    refine hN' _ _ G5 v5.gg ⟨vs ++ [u], rs ++ [z], _, ⟨fun a o na q' => ?_, w5.gg, fun a o q' => ?_, w5.nw⟩, ?_, gA5, upd_same, (rA.mono (v2.gg.trans v5.gg)).append (.cons o5' .nil), by rw [List.length_append, lr]; rfl, fun r hr => ?_, en2.mono v5.gg, sj2⟩
    · rw [upd_ne (ne_of_none q' hA)]
      exact w5.hh a o na q'
    · rw [upd_ne (ne_of_none q' gA5)]
      exact w5.gh a o q'
    · obtain ⟨ia, ib, ic, x5, y5⟩ := po5
      exact ⟨ia, ib, ic, by rw [upd_ne pA]; exact x5, y5⟩
    · rcases List.mem_append.mp hr with k | k
      · exact re r k
      · rw [List.mem_singleton.mp k]; exact rz
  · obtain ⟨vs, rs, o1, v', po', gA', hA', rA, lr, re, en', sj⟩ := hI
    obtain ⟨G3, v3, r3, hgg⟩ := v'.settle hA gA' hA' rA
    have en3 : En X.K G3 σ' (((δ.set j none).set j1 o1).set j (some (.d (.list rs)))) := by
      have h1 := (en'.mono hgg).set (v := .ref A) (c := .d (.list rs)) j r3
      have h2 : σ'.set j (some (V.ref A)) = σ' := by
        apply List.ext_getElem?
        intro k
        by_cases z : j = k
        · subst z
          rw [List.getElem?_set_self (List.getElem?_eq_some_iff.mp sj).1, sj]
        · rw [List.getElem?_set_ne z]
      rwa [h2] at h1
    exact hr o1 rs lr re σ' H' G3 D v3.gh (v3.out po gp) po' en3 (k.mono v3 po')
end
end KP
set_option linter.all false
set_option maxRecDepth 100000
set_option maxHeartbeats 4000000
/-! _law_matrix -/
namespace KP
open PySem PySem.Spec PyProof.Rows L2 KW K68
def Lq (q : Rat) : Prop := ∃ t l : Nat, t ≤ 100 ∧ (l = 1 ∨ l = 2 ∨ l = 5) ∧ q = Rat.divInt t l
structure Lm (M : Mx) (r c : Nat) : Prop where
  len : M.length = r
  wd : ∀ row ∈ M, row.length = c
  en : ∀ row ∈ M, ∀ q ∈ row, Lq q
theorem picks {α : Type} {f : α → PyData} {Pr : α → Prop} : ∀ {rs : List PyData}, (∀ r ∈ rs, ∃ x, r = f x ∧ Pr x) → ∃ xs : List α, rs = xs.map f ∧ ∀ x ∈ xs, Pr x
  | [], _ => ⟨[], rfl, fun x h => by cases h⟩
  | r :: rs, h => by
    obtain ⟨x, rfl, hx⟩ := h r (List.mem_cons_self ..)
    obtain ⟨xs, rfl, hxs⟩ := picks (rs := rs) fun y hy => h y (List.mem_cons_of_mem _ hy)
    refine ⟨x :: xs, rfl, fun y hy => ?_⟩
    rcases List.mem_cons.mp hy with z | z
    · rw [z]; exact hx
    · exact hxs y z
def R_lmat (cs : List Cl) (t : Nat) (D : PyData → Prop) : Prop := ∃ r c : Nat, cs = [.d (.int (r : Nat)), .d (.int (c : Nat))] ∧ 1 ≤ r ∧ r ≤ 100 ∧ 1 ≤ c ∧ c ≤ 100 ∧ t = 2 + r * c ∧ D = fun d => ∃ M, d = matD M ∧ Lm M r c
section
variable {X : Cx} {p : Addr} {m m1 m2 t : Nat} {e1 e2 e3 : Expr} {δ : DE} {R R1 R2 : Cl → Prop} {pos q1 : Pos}
theorem k_fb1 {k k' : Nat} {x : Str} {Rf : List Cl → Nat → (PyData → Prop) → Prop} (C : Fb X.prog X.w X.K X.mg X.base k x (spK X.K Rf)) (hr : Room k' X.A) (hk : k ≤ k') (h1 : Ey X e1 δ (.v (.ref p))) (hR : ∃ D, Rf [] t D ∧ ∀ d, D d → R (.d d)) (hm2 : m + t = m2) (h1000 : m2 ≤ 1001) (hg : Gl X x := by rfl) (hdb : (x == ("__debug__" : Str)) = false := by decide) (he : starEach [e1] X.env = (false, eval e1 X.env) :: starEach [] X.env := by rfl) : Ky X p m m2 (.Call (.Name x q1) [e1] [] pos) δ R :=
  k_fb (S := fun cs => cs = [.v (.ref p)]) (t := t) C hr hk (ka_cons (R1 := fun c => c = .v (.ref p)) (S1' := fun cs => cs = []) (k_y h1 rfl) (ka_nil rfl) (fun c cs h1 h2 => by rw [h1, h2]) he) (fun cs h => by
    obtain ⟨D, hD, hd⟩ := hR
    exact ⟨_, D, h, hD, hd⟩) hm2 h1000 hg hdb he rfl
theorem k_fb2 {k k' : Nat} {x : Str} {Rf : List Cl → Nat → (PyData → Prop) → Prop} (C : Fb X.prog X.w X.K X.mg X.base k x (spK X.K Rf)) (hr : Room k' X.A) (hk : k ≤ k') (h1 : Ey X e1 δ (.v (.ref p))) (h2 : Ky X p m m1 e2 δ R1) (hR : ∀ c, R1 c → ∃ D, Rf [c] t D ∧ ∀ d, D d → R (.d d)) (hm2 : m1 + t = m2) (h1000 : m2 ≤ 1001) (hg : Gl X x := by rfl) (hdb : (x == ("__debug__" : Str)) = false := by decide) (he : starEach [e1, e2] X.env = (false, eval e1 X.env) :: starEach [e2] X.env := by rfl) (he2 : starEach [e2] X.env = (false, eval e2 X.env) :: starEach [] X.env := by rfl) (hpl : (backTo pos (starEach [e2] X.env)).any (·.1) = false := by rfl) : Ky X p m m2 (.Call (.Name x q1) [e1, e2] [] pos) δ R :=
  k_fb (S := fun cs => ∃ c, cs = [.v (.ref p), c] ∧ R1 c) (t := t) C hr hk (ka_cons (R1 := fun c => c = .v (.ref p)) (S1' := fun cs => ∃ c, cs = [c] ∧ R1 c) (k_y h1 rfl) (ka_cons (R1 := R1) (S1' := fun cs => cs = []) h2 (ka_nil rfl) (fun c cs h1 h2 => ⟨c, by rw [h2], h1⟩) he2) (fun c cs h1 h2 => by
    obtain ⟨c', rfl, h3⟩ := h2
    exact ⟨c', by rw [h1], h3⟩) he) (fun cs h => by
    obtain ⟨c, rfl, hc⟩ := h
    obtain ⟨D, hD, hd⟩ := hR c hc
    exact ⟨_, D, rfl, hD, hd⟩) hm2 h1000 hg hdb he hpl
theorem k_fb3 {k k' : Nat} {x : Str} {Rf : List Cl → Nat → (PyData → Prop) → Prop} {c2 c3 : Cl} (C : Fb X.prog X.w X.K X.mg X.base k x (spK X.K Rf)) (hr : Room k' X.A) (hk : k ≤ k') (h1 : Ey X e1 δ (.v (.ref p))) (h2 : Ey X e2 δ c2) (h3 : Ey X e3 δ c3) (hR : ∃ D, Rf [c2, c3] t D ∧ ∀ d, D d → R (.d d)) (hm2 : m + t = m2) (h1000 : m2 ≤ 1001) (hg : Gl X x := by rfl) (hdb : (x == ("__debug__" : Str)) = false := by decide) (he : starEach [e1, e2, e3] X.env = (false, eval e1 X.env) :: starEach [e2, e3] X.env := by rfl) (he2 : starEach [e2, e3] X.env = (false, eval e2 X.env) :: starEach [e3] X.env := by rfl) (he3 : starEach [e3] X.env = (false, eval e3 X.env) :: starEach [] X.env := by rfl) (hpl : (backTo pos (starEach [e2, e3] X.env)).any (·.1) = false := by rfl) : Ky X p m m2 (.Call (.Name x q1) [e1, e2, e3] [] pos) δ R :=
  k_fb (S := fun cs => cs = [.v (.ref p), c2, c3]) (t := t) C hr hk (ka_cons (R1 := fun c => c = .v (.ref p)) (S1' := fun cs => cs = [c2, c3]) (k_y h1 rfl) (ka_cons (R1 := fun c => c = c2) (S1' := fun cs => cs = [c3]) (k_y h2 rfl) (ka_cons (R1 := fun c => c = c3) (S1' := fun cs => cs = []) (k_y h3 rfl) (ka_nil rfl) (fun c cs h1 h2 => by rw [h1, h2]) he3) (fun c cs h1 h2 => by rw [h1, h2]) he2) (fun c cs h1 h2 => by rw [h1, h2]) he) (fun cs h => by
    obtain ⟨D, hD, hd⟩ := hR
    exact ⟨_, D, h, hD, hd⟩) hm2 h1000 hg hdb he hpl
/-- f(e1, e2): e1 takes -/
theorem k_cb2 {k k' : Nat} {x : Str} {Rf : List Cl → PyData → Prop} {c2 : Cl} (C : Cb X.prog X.w X.K X.mg X.base k x Rf) (hr : Room k' X.A) (hk : k ≤ k') (h1 : Ky X p m m2 e1 δ R1) (h2 : Ey X e2 δ c2) (hR : ∀ c, R1 c → ∃ d, Rf [c, c2] d ∧ R (.d d)) (hg : Gl X x := by rfl) (hdb : (x == ("__debug__" : Str)) = false := by decide) (he : starEach [e1, e2] X.env = (false, eval e1 X.env) :: starEach [e2] X.env := by rfl) (he2 : starEach [e2] X.env = (false, eval e2 X.env) :: starEach [] X.env := by rfl) (hpl : (backTo pos (starEach [e2] X.env)).any (·.1) = false := by rfl) : Ky X p m m2 (.Call (.Name x q1) [e1, e2] [] pos) δ R :=
  k_cb (S := fun cs => ∃ c, cs = [c, c2] ∧ R1 c) C hr hk (ka_cons (R1 := R1) (S1' := fun cs => cs = [c2]) h1 (ka_cons (R1 := fun c => c = c2) (S1' := fun cs => cs = []) (k_y h2 rfl) (ka_nil rfl) (fun c cs h1 h2 => by rw [h1, h2]) he2) (fun c cs h1 h2 => ⟨c, by rw [h2], h1⟩) he) (fun cs h => by
    obtain ⟨c, rfl, hc⟩ := h
    exact hR c hc) hg hdb he hpl
/-- x, y = e -/
theorem ks_asg2 {e tg : Expr} {i j : Nat} {P : Pk} {sts : List Stmt} (he : Ky X p m m1 e δ R) (hpg : PG X tg (gTup X.K 2 (gCons (gName i) (gCons (gName j) gNil)))) (q : ∀ c, R c → ∃ d1 d2, c = .d (.tuple [d1, d2]) ∧ Ks X p m1 sts ((δ.set i (some (.d d1))).set j (some (.d d2))) P) (hs : swapsWithSole [tg] e pos.line X.env = pure false := by rfl) (hw : swappedStores [tg] e X.env = pure none := by rfl)
    (h1 : (assignEach [tg] X.env).map (·.2) = [assign tg X.env] := by rfl) : Ks X p m (.Assign [tg] e pos :: sts) δ P := fun σ H G D eg gp po en k =>
  leSs (pss_cons (ps_asg peW hpg hs hw h1) pssW) (he σ H G _ eg gp po en fun v H1 G1 c v1 po1 rc o1 => by
    obtain ⟨d1, d2, rfl, hk⟩ := q c rc
    have o1' : Rp X.K G1 v (.tuple [d1, d2]) := o1
    cases o1' with
    | tup h r =>
      cases r with
      | cons ra r =>
        cases r with
        | cons rb r =>
          cases r
          exact ⟨_, _, rfl, ex_t v1.gh h, rfl, _, _, rfl, _, _, rfl, rfl, hk _ H1 G1 D v1.gh (v1.out po gp) po1 (((en.mono v1.gg).set (c := .d d1) i ra).set (c := .d d2) j rb) (k.mono v1 po1)⟩)
theorem k_weak (h : Ky X p m m2 e1 δ R1) (hR : ∀ c, R1 c → R c) : Ky X p m m2 e1 δ R := fun σ H G Q eg gp po en q => h σ H G Q eg gp po en fun v H2 G2 c v2 po2 r o => q v H2 G2 c v2 po2 (hR c r) o
end
section
variable {P : Program} {w : World} {K : PySem.W.Frag} {mg : Str → Option Value} {base : Heap}
theorem ok_lmat (B : Bl mg) (h : Has K mg "_law_matrix" s__law_matrix ["pot", "rows", "columns"]) (ht : Fb P w K mg base 1 "_law_take" (spK K R_take)) (ho : Fb P w K mg base 2 "_law_of" (spK K R_of)) (hs : Cb P w K mg base 1 "_law_short" R_short) : Fb P w K mg base 3 "_law_matrix" (spK K R_lmat) := by
  refine Fb.of (k := 2) h c__law_matrix (fun cs t D h => by obtain ⟨_, _, rfl, _⟩ := h; rfl) fun f cdv A outer s H E hr p cs t D m h hm => ?_
  obtain ⟨r, c, rfl, r1, r2, c1, c2, rfl, rfl⟩ := h
  refine ks_asg2 (X := bX P w K mg base ["pot", "rows", "columns", "low", "some", "found", "row", "column"] "_law_matrix" s__law_matrix f cdv A outer s H E) (i := 3) (j := 4) (m1 := m + 2) (R := fun c => ∃ l u : Nat, c = .d (.tuple [.int (l : Nat), .int (u : Nat)]) ∧ (l = 1 ∨ l = 2 ∨ l = 5) ∧ (u = 2 ∨ u = 5 ∨ u = 101)) (k_tup (S := fun cs => ∃ l u : Nat, cs = [.d (.int (l : Nat)), .d (.int (u : Nat))] ∧ (l = 1 ∨ l = 2 ∨ l = 5) ∧ (u = 2 ∨ u = 5 ∨ u = 101)) (ka_cons (m1 := m + 1) (R1 := fun c => ∃ l : Nat, c = .d (.int (l : Nat)) ∧ (l = 1 ∨ l = 2 ∨ l = 5)) (S1' := fun cs => ∃ u : Nat, cs = [.d (.int (u : Nat))] ∧ (u = 2 ∨ u = 5 ∨ u = 101)) (k_ty1 (T := "int") (R1 := fun c => ∃ d, c = .d d ∧ d ∈ [PyData.int 1, .int 1, .int 2, .int 5]) (fun c1 h1 => ?_) B.int (k_fb2 (m1 := m) (t := 1) (R1 := fun c => c = .d (.list [.int 1, .int 1, .int 2, .int 5])) ho hr (by decide) (yv 0) (k_y (y_lst (ds := [.int 1, .int 1, .int 2, .int 5]) (a_cons y_int (a_cons y_int (a_cons y_int (a_cons y_int a_nil)))) (by show 4 ≤ 1000; decide)) rfl) (fun c hc => ⟨_, ⟨_, by rw [hc], by decide, by decide, rfl, rfl⟩, fun d hd => ⟨d, rfl, hd⟩⟩) rfl (by omega))) (ka_cons (m1 := m + 2) (R1 := fun c => ∃ u : Nat, c = .d (.int (u : Nat)) ∧ (u = 2 ∨ u = 5 ∨ u = 101)) (S1' := fun cs => cs = []) (k_ty1 (T := "int") (R1 := fun c => ∃ d, c = .d d ∧ d ∈ [PyData.int 2, .int 5, .int 101]) (fun c1 h1 => ?_) B.int (k_fb2 (m1 := m + 1) (t := 1) (R1 := fun c => c = .d (.list [.int 2, .int 5, .int 101])) ho hr (by decide) (yv 0) (k_y (y_lst (ds := [.int 2, .int 5, .int 101]) (a_cons y_int (a_cons y_int (a_cons y_int a_nil))) (by show 3 ≤ 1000; decide)) rfl) (fun c hc => ⟨_, ⟨_, by rw [hc], by decide, by decide, rfl, rfl⟩, fun d hd => ⟨d, rfl, hd⟩⟩) rfl (by omega))) (ka_nil rfl) (fun c cs h1 h2 => ?_)) (fun c cs h1 h2 => ?_)) (fun cs h1 => ?_)) (pg_tup rfl (pgs_cons (pg_name (i := 3) c__law_matrix.nd rfl (.inr rfl)) (pgs_cons (pg_name (i := 4) c__law_matrix.nd rfl (.inr rfl)) pgs_nil))) (fun cs hcs => ?_)
  · obtain ⟨d, rfl, hd⟩ := h1
    have : ∃ l : Nat, d = .int (l : Nat) ∧ (l = 1 ∨ l = 2 ∨ l = 5) := by
      simp only [List.mem_cons, List.not_mem_nil, or_false] at hd
      rcases hd with z | z | z | z
      · exact ⟨1, z, .inl rfl⟩
      · exact ⟨1, z, .inl rfl⟩
      · exact ⟨2, z, .inr (.inl rfl)⟩
      · exact ⟨5, z, .inr (.inr rfl)⟩
    obtain ⟨l, rfl, hl⟩ := this
    exact ⟨_, ⟨l, rfl, hl⟩, c_int⟩
  · obtain ⟨d, rfl, hd⟩ := h1
    have : ∃ l : Nat, d = .int (l : Nat) ∧ (l = 2 ∨ l = 5 ∨ l = 101) := by
      simp only [List.mem_cons, List.not_mem_nil, or_false] at hd
      rcases hd with z | z | z
      · exact ⟨2, z, .inl rfl⟩
      · exact ⟨5, z, .inr (.inl rfl)⟩
      · exact ⟨101, z, .inr (.inr rfl)⟩
    obtain ⟨l, rfl, hl⟩ := this
    exact ⟨_, ⟨l, rfl, hl⟩, c_int⟩
  · obtain ⟨u, rfl, hu⟩ := h1
    subst h2
    exact ⟨u, rfl, hu⟩
  · obtain ⟨l, rfl, hl⟩ := h1
    obtain ⟨u, rfl, hu⟩ := h2
    exact ⟨l, u, rfl, hl, hu⟩
  · obtain ⟨l, u, rfl, hl, hu⟩ := h1
    exact ⟨[.int (l : Nat), .int (u : Nat)], rfl, by show 2 ≤ 1000; decide, l, u, rfl, hl, hu⟩
  · obtain ⟨l, u, rfl, hl, hu⟩ := hcs
    refine ⟨_, _, rfl, ?_⟩
    refine ks_foundN (j := 5) (j1 := 6) (t := c) (m2 := m + (2 + r * c)) (ds := rangeD 0 r) (Re := fun d => ∃ row : List Rat, d = rowD row ∧ row.length = c ∧ ∀ q ∈ row, Lq q) PassesOwn.never rfl c__law_matrix.nd rfl rfl (.inl rfl) (.inl rfl) (by decide) rfl rfl (.inl rfl) (i_rangeN (n := r) rfl rfl B.range (yv 1) (by omega)) (by rw [rangeD_len]; omega) (Nat.le_of_ble_eq_true rfl) (fun i d hd => ?_) (by rw [rangeD_len]; omega) (fun o1 rs lr re => ?_)
    · have hn : ∃ n : Nat, (100 : Int) / ((u : Int) - 1) = (n : Nat) ∧ n ≤ 100 ∧ (∀ i, i < u → i * n ≤ 100) ∧ CDivA 100 ((u : Int) - 1) := by
        rcases hu with z | z | z <;> subst z
        · exact ⟨100, rfl, by decide, by decide, by decide, .inl (by decide)⟩
        · exact ⟨25, rfl, by decide, by decide, by decide, .inl (by decide)⟩
        · exact ⟨1, rfl, by decide, by decide, by decide, .inl (by decide)⟩
      obtain ⟨n, en, n1, n2, n3⟩ := hn
      have u1000 : 1 ≤ u ∧ u ≤ 1000 := by omega
      have ir : i < r := by
        have := (List.getElem?_eq_some_iff.mp hd).1
        rwa [rangeD_len] at this
      have bnd : (i + 1) * c ≤ r * c := Nat.mul_le_mul_right c (by omega)
      have e1 : (i + 1) * c = i * c + c := by rw [Nat.add_mul, Nat.one_mul]
      refine k_ty1 (T := "tuple") (R1 := fun c' => ∃ rs, c' = .d (.list rs) ∧ rs.length = (rangeD 0 c).length ∧ ∀ r ∈ rs, ∃ q, r = frD q ∧ Lq q) (fun c1 h1 => ?_) B.tuple (k_lcN (t := 1) c__law_matrix.nd 7 (i_rangeN (n := c) rfl rfl B.range (yv 2) (by omega)) b__law_matrix_0 (fun j d hd s H0 C cl fp => ?_) (by rw [rangeD_len]; omega) (by rw [rangeD_len]; omega))
      · obtain ⟨rs, rfl, hl, hr⟩ := h1
        obtain ⟨qs, rfl, hq⟩ := picks hr
        refine ⟨_, ⟨_, rfl, qs, rfl, ?_, hq⟩, c_tupL⟩
        rw [rangeD_len, List.length_map] at hl
        exact hl
      · have jc : j < c := by
          have := (List.getElem?_eq_some_iff.mp hd).1
          rwa [rangeD_len] at this
        refine k_cb2 (R1 := fun c' => ∃ t : Nat, t ≤ 100 ∧ c' = .d (.int (t : Nat))) hs hr (by decide) (k_ty1 (T := "int") (R1 := fun c' => ∃ t : Nat, t ≤ 100 ∧ c' = .d (.int (t : Nat))) (fun c1 h1 => ?_) B.int (k_op (m1 := m + 2 + i * c + (j + 1) * 1) (R1 := fun c' => ∃ t : Nat, t < u ∧ c' = .d (.int (t : Nat))) (R2 := fun c' => c' = .d (.int (n : Nat))) (fun c1 c2 h1 h2 => ?_) (k_fb2 (R1 := fun c' => c' = .d (.int (u : Nat))) (t := 1) ht hr (by decide) (yv 0) (k_y (yv 4) rfl) (fun c' hc => ⟨_, ⟨u, by rw [hc], u1000.1, u1000.2, rfl, rfl⟩, fun d hd => ?_⟩) (by omega) (by omega)) (k_y (y_conv (y_op (o_fdiv n3) y_int (y_op o_sub (yv 4) y_int)) (by rw [en])) rfl))) (yv 3) (fun c1 h1 => ?_)
        · obtain ⟨t, ht, rfl⟩ := h1
          exact ⟨_, ⟨t, ht, rfl⟩, c_int⟩
        · obtain ⟨t, ht, rfl⟩ := h1
          subst h2
          refine ⟨.d (.int ((t : Int) * (n : Int))), ⟨t * n, n2 t ht, by rw [Int.natCast_mul]⟩, o_mul (mulOk (a := 10) (b := 7) (bt_of ?_) (bt_of ?_))⟩
          · rw [Int.natAbs_natCast]
            show t < 1024
            omega
          · rw [Int.natAbs_natCast]
            show n < 128
            omega
        · obtain ⟨t, ht, rfl⟩ := hd
          exact ⟨t, ht, rfl⟩
        · obtain ⟨t, ht, rfl⟩ := h1
          exact ⟨_, ⟨t, l, rfl, by omega, by omega, rfl⟩, _, rfl, _, rfl, t, l, ht, hl, rfl⟩
    · rw [rangeD_len] at lr
      refine ks_ret (m1 := m + (2 + r * c)) (R := fun c => c = .d (.tuple rs)) (k_y (y_t1 c_tupL B.tuple (yv 5)) rfl) (fun c hc => ⟨Nat.le_refl _, _, hc, ?_⟩)
      obtain ⟨M, rfl, hM⟩ := picks re
      exact ⟨M, rfl, by rw [← lr, List.length_map], fun row h => (hM row h).1, fun row h => (hM row h).2⟩
end
end KP
set_option linter.all false
set_option maxRecDepth 100000
set_option maxHeartbeats 4000000
set_option exponentiation.threshold 4000
/-! _law_cells, _law_pot -/
namespace KP
open PySem PySem.Spec PyProof.Rows L2 KW K68
section
variable {X : Cx} {δ : DE} {e : Expr} {pos : Pos}
/-- a list that stays whatever it is -/
theorem c_lenF {ds : List PyData} : Cy X (.builtin "len") [.f ds] (.d (.int (ds.length : Nat))) := ⟨_, call_len_seq, fun vs H G Q eg o q => by
  cases o with
  | cons o r =>
    cases r
    obtain ⟨a, xs, rfl, hp, r⟩ := o
    exact ⟨_, _, rfl, .inl (ex_l eg hp), by rw [r.length]; exact q _ H G (Vx.refl eg) (.int _)⟩⟩
theorem x_lstF {ds : List PyData} {i : Int} {d : PyData} (h : atI ds i = some d) : Xy X (.f ds) (.d (.int i)) (.d d) := ⟨_, ix_list, fun x y H G Q eg o1 o2 q => by
  obtain ⟨a, xs, rfl, h1, r1⟩ := o1
  have o2' : Rp X.K G y (.int i) := o2
  cases o2'
  obtain ⟨j, e1, e2, _⟩ := atI_get h
  obtain ⟨v, ev, rv⟩ := r1.get e2
  refine ⟨_, _, _, v, rfl, rfl, ex_l eg h1, ?_, q v H G (Vx.refl eg) rv⟩
  unfold atI at h ⊢
  rw [r1.length]
  cases hx : ixN ds.length i with
  | none => rw [hx] at h; cases h
  | some j' =>
    rw [hx] at h
    have : j' = j := by
      have b := (ixN_seq hx).1
      rw [e1] at b
      exact (Option.some.inj b).symm
    show _ = _
    rw [this]
    exact ev⟩
theorem y_cutF {ds : List PyData} {lo hi : Option Expr} {l u : Option Int} {p2 : Pos} (h : Ey X e δ (.f ds)) (hl : Py X lo δ l) (hu : Py X hi δ u) : Ey X (.Subscript e (.Slice lo hi none p2) pos) δ (.d (.list (cutD ds l u))) := fun σ H G Q eg en q => by
  obtain ⟨tl, pl, ql⟩ := hl
  obtain ⟨tu, pu, qu⟩ := hu
  refine leE (pe_slice sl_list peW pl pu) (h σ H G _ eg en fun v H1 G1 v1 o1 => ql σ H1 G1 _ v1.gh (en.mono v1.gg) fun H2 G2 v2 => qu σ H2 G2 _ v2.gh ((en.mono v1.gg).mono v2.gg) fun H3 G3 v3 => ?_)
  obtain ⟨a, xs, rfl, hp, r⟩ := cOk.mono v3.gg (cOk.mono v2.gg o1)
  refine ⟨_, _, rfl, ex_l v3.gh hp, fun p hp2 => ?_⟩
  exact q _ _ _ (((v1.trans v2).trans v3).trans (Vx.new v3.gh hp2)) (Rp.lst upd_same ((cut_rp r l u).mono (Vx.new v3.gh hp2).gg))
end
def cellsN (n : Nat) : Nat := if n ≤ 1 then 1 else 2
def R_cells (cs : List Cl) (d : PyData) : Prop := ∃ (ds : List PyData), cs = [.f ds, .d (.int 2)] ∧ d = .list ((List.range (cellsN ds.length)).map fun j => .int (j : Nat))
def cellI (ns : List Int) (i : Nat) : Int := ns.getD i 19085
def spPot (K : PySem.W.Frag) : Sp := fun vs H Q _ => ∃ (G : Hp) (u : V) (ns : List Int) (i : Nat), vs = [u, .int (i : Nat)] ∧ Ex G H ∧ cOk K G (.f (ns.map .int)) u ∧ i < max 1 ns.length ∧ i ≤ 1 ∧ ∀ (p : Addr) (H2 G2 : Hp), Vx H G H2 G2 → H p = none → G2 p = none → Pot p 0 H2 → Q (.ref p) H2
theorem seg {X : Cx} {st : Stmt} {sts : List Stmt} {δ δ' : DE} {σ : L2.St} {H G : Hp} {D : Ends} (h : S1 X st δ { nx := fun δ2 => δ2 = δ', rt := fun _ => False }) (eg : Ex G H) (en : En X.K G σ δ) (k : ∀ σ2 H2 G2, Vx H G H2 G2 → En X.K G2 σ2 δ' → tWSs X sts D σ2 H2) : tWSs X (st :: sts) D σ H :=
  leSs (pss_cons psW pssW) (run1 h eg en ⟨fun σ2 H2 G2 δ2 v e2 q => by subst q; exact k σ2 H2 G2 v e2, fun _ _ _ _ _ _ z => z.elim, fun _ _ _ _ _ _ z => z.elim, fun _ _ _ _ _ _ z => z.elim⟩)
section
variable {P : Program} {w : World} {K : PySem.W.Frag} {mg : Str → Option Value} {base : Heap}
theorem ok_cells (B : Bl mg) (h : Has K mg "_law_cells" s__law_cells ["script", "limit"]) : Cb P w K mg base 1 "_law_cells" R_cells := by
  refine Cb.of (k := 0) h c__law_cells (fun cs d h => by obtain ⟨_, rfl, _⟩ := h; rfl) fun f cdv A outer s H E hr cs d h => ?_
  obtain ⟨ds, rfl, rfl⟩ := h
  have e : (if (if ((ds.length : Nat) : Int) < 2 then ((ds.length : Nat) : Int) else 2) > 1 then (if ((ds.length : Nat) : Int) < 2 then ((ds.length : Nat) : Int) else 2) else 1) = ((cellsN ds.length : Nat) : Int) := by
    unfold cellsN
    split <;> split <;> split <;> omega
  have c2 : cellsN ds.length ≤ 2 := by
    unfold cellsN
    split <;> omega
  refine s_one (s_ret (y_conv (y_listRg (n := ((cellsN ds.length : Nat) : Int)) rfl rfl B.list rfl B.range (y_conv (y_b2 (c_max2 rfl) B.max y_int (y_b2 (c_min2 rfl) B.min (yv 1) (y_b1 c_lenF B.len (yv 0)))) (congrArg PyData.int e)) ⟨by omega, by omega⟩) (by rw [Int.toNat_natCast])) rfl)
theorem ok_pot (B : Bl mg) (h : Has K mg "_law_pot" s__law_pot ["script", "place"]) : Fb P w K mg base 1 "_law_pot" (spPot K) := by
  obtain ⟨f, fd, hm, F, hb⟩ := h.ex
  refine ⟨f, fd, _, F.ok (k := 0) c__law_pot (fun vs H Q E h => ?_) (fun cdv A outer s H vs Q E hr h => ?_), hm, F.kp, hb⟩
  · obtain ⟨G, u, ns, i, rfl, _⟩ := h
    rfl
  obtain ⟨G, u, ns, i, rfl, eg, ru, il, i1, q⟩ := h
  have en : En K G (L2.start ["script", "place", "cell", "own", "small"] [u, .int (i : Nat)]) (stD ["script", "place", "cell", "own", "small"] [.f (ns.map .int), .d (.int (i : Nat))]) := start_en (.cons ru (.cons (Rp.int _) .nil))
  have sz : ∀ x : Int, 0 ≤ (if x < 0 then -x else x) % ((10 ^ 60) ^ 5 : Int) ∧ (if x < 0 then -x else x) % ((10 ^ 60) ^ 5 : Int) < (10 ^ 60) ^ 5 := fun x => ⟨Int.emod_nonneg _ (by decide), Int.emod_lt_of_pos _ (by decide)⟩
  have ownB : ∀ x : Int, Bt 999 ((if x < 0 then -x else x) % ((10 ^ 60) ^ 5 : Int)) := fun x => bt_range (sz x).1 (Int.lt_trans (sz x).2 (by decide))
  have b01 : ∀ k : Bool, Bt 1 (if k then 1 else 0) := fun k => by cases k <;> exact bt_of (by decide)
  refine ⟨_, pssW, ?_⟩
  refine seg (X := bX P w K mg base ["script", "place", "cell", "own", "small"] "_law_pot" s__law_pot f cdv A outer s H E) (δ' := [some (.f (ns.map .int)), some (.d (.int (i : Nat))), some (.d (.int (cellI ns i))), none, none]) ?_ eg en fun σ1 H1 G1 v1 en1 => ?_
  · refine s_set (i := 2) c__law_pot.nd rfl (.inl rfl) (y_if (c := .d (.int (cellI ns i))) (t_cmp o_lt (yv 1) (y_b1 c_lenF B.len (yv 0)) rfl) (fun hk => ?_) (fun hk => ?_)) rfl
    · have := of_decide_eq_true hk
      rw [List.length_map] at this
      have il : i < ns.length := by omega
      refine y_ix (x_lstF (ds := ns.map .int) (atI_nat (j := i) ?_)) (yv 0) (yv 1)
      rw [List.getElem?_map, List.getElem?_eq_getElem il]
      unfold cellI
      rw [List.getD_eq_getElem?_getD, List.getElem?_eq_getElem il]
      rfl
    · have := of_decide_eq_false hk
      rw [List.length_map] at this
      have il2 : ns.length = 0 ∧ i = 0 := by omega
      have hns : ns = [] := List.length_eq_zero_iff.mp il2.1
      obtain ⟨_, i0⟩ := il2
      subst hns i0
      refine y_conv (d := .int ((([] : List Int).sum) % 1000003 + 7605 * ((0 : Nat) : Int) + 19085)) ?_ ?_
      refine y_op o_add (y_op o_add (y_op (o_mod ?_) (y_t1 c_int B.int (y_b1 (c_sum (ns := []) rfl) B.sum ?_)) y_int) (y_op (o_mul ?_) y_int (yv 1))) y_int
      · decide
      · exact y_conv (y_cutF (ds := []) (yv 0) p_none (p_some y_int)) rfl
      · exact mulOk (a := 13) (b := 1) (bt_of (by decide)) (bt_of (by decide))
      · rfl
  refine seg (X := bX P w K mg base ["script", "place", "cell", "own", "small"] "_law_pot" s__law_pot f cdv A outer s H E) (δ' := [some (.f (ns.map .int)), some (.d (.int (i : Nat))), some (.d (.int (cellI ns i))), some (.d (.int ((if cellI ns i < 0 then -cellI ns i else cellI ns i) % ((10 ^ 60) ^ 5 : Int) * (if decide ((10 : Int) ^ 18 ≤ if cellI ns i < 0 then -cellI ns i else cellI ns i) then 1 else 0)))), none]) ?_ v1.gh en1 fun σ2 H2 G2 v2 en2 => ?_
  · refine s_set (i := 3) c__law_pot.nd rfl (.inl rfl) (y_op (o_mul ?_) (y_op (o_mod ?_) (y_t1 c_int B.int (y_b1 c_abs B.abs (yv 2))) (y_conv (d' := .int ((10 ^ 60) ^ 5)) (y_op (o_pow ?_) (y_op (o_pow ?_) y_int y_int) y_int) ?_)) (y_t1 c_intB B.int (y_cmp o_ge (y_b1 c_abs B.abs (yv 2)) (y_conv (d' := .int (10 ^ 18)) (y_op (o_pow ?_) y_int y_int) ?_) rfl))) rfl
    · exact mulOk (a := 999) (b := 1) (ownB _) (b01 _)
    · decide
    · refine ⟨by decide, ?_⟩
      decide +kernel
    · refine ⟨by decide, ?_⟩
      decide +kernel
    · rfl
    · refine ⟨by decide, ?_⟩
      decide +kernel
    · rfl
  have v12 := v1.trans v2
  have fin : ∀ (x : Int) (k : Bool), 0 ≤ x → 0 ≤ x * (if k then 1 else 0) := fun x k h => by
    cases k
    · rw [if_neg Bool.false_ne_true, Int.mul_zero]
      exact Int.le_refl 0
    · rw [if_pos rfl, Int.mul_one]
      exact h
  have fin0 : 0 ≤ (if cellI ns i < 0 then -cellI ns i else cellI ns i) % ((10 ^ 60) ^ 5 : Int) * (if decide ((10 : Int) ^ 18 ≤ if cellI ns i < 0 then -cellI ns i else cellI ns i) then 1 else 0) := fin _ _ (sz (cellI ns i)).1
  have fin1 : Bt 1000 ((if cellI ns i < 0 then -cellI ns i else cellI ns i) % ((10 ^ 60) ^ 5 : Int) * (if decide ((10 : Int) ^ 18 ≤ if cellI ns i < 0 then -cellI ns i else cellI ns i) then 1 else 0)) := (ownB _).mul (b01 _)
  revert en2 fin0 fin1
  generalize (if cellI ns i < 0 then -cellI ns i else cellI ns i) % ((10 ^ 60) ^ 5 : Int) * (if decide ((10 : Int) ^ 18 ≤ if cellI ns i < 0 then -cellI ns i else cellI ns i) then 1 else 0) = own
  intro en2 fin0 fin1
  refine seg (X := bX P w K mg base ["script", "place", "cell", "own", "small"] "_law_pot" s__law_pot f cdv A outer s H E) (δ' := [some (.f (ns.map .int)), some (.d (.int (i : Nat))), some (.d (.int (cellI ns i))), some (.d (.int own)), some (.d (.int (cellI ns i % 2305843009213693951)))]) ?_ v2.gh en2 fun σ3 H3 G3 v3 en3 => ?_
  · refine s_set (i := 4) c__law_pot.nd rfl (.inl rfl) (y_op (o_mod ?_) (y_t1 c_int B.int (yv 2)) y_int) rfl
    decide
  have s0 : 0 ≤ cellI ns i % 2305843009213693951 := Int.emod_nonneg _ (by decide)
  have s1 : cellI ns i % 2305843009213693951 < 2305843009213693951 := Int.emod_lt_of_pos _ (by decide)
  revert en3 s0 s1
  generalize cellI ns i % 2305843009213693951 = small
  intro en3 s0 s1
  have v13 := v12.trans v3
  have bs : Bt 61 small := bt_range s0 (Int.lt_trans s1 (by decide))
  have bi : Bt 1 (i : Int) := bt_of (by rw [Int.natAbs_natCast]; show i < 2; omega)
  have a1 : Ay (bX P w K mg base ["script", "place", "cell", "own", "small"] "_law_pot" s__law_pot f cdv A outer s H E) [.Name "own" ⟨146, 12, 146, 15⟩] [some (.f (ns.map .int)), some (.d (.int (i : Nat))), some (.d (.int (cellI ns i))), some (.d (.int own)), some (.d (.int small))] [.d (.int own)] := a_cons (yv 3) a_nil
  refine leSs (pss_one (ps_ret (pe_lst paW))) ((a_cons (yv 3) (a_cons (y_op (o_mod ?_) (y_t1 c_int B.int (y_op o_add (y_op o_add (y_op (o_mul ?_) (yv 4) y_int) (y_op (o_mul ?_) (y_op (o_mul ?_) y_int (yv 1)) (yv 1))) y_int)) y_int) (a_cons y_int a_nil))) σ3 H3 G3 _ v3.gh en3 fun vs H4 G4 v4 o4 => ?_)
  · decide
  · exact mulOk (bs) (bt_of (k := 17) (by decide))
  · exact mulOk (b := 1) ((bt_of (k := 14) (i := 14869) (by decide)).mul bi) bi
  · exact mulOk (a := 14) (b := 1) (bt_of (by decide)) bi
  · cases o4 with
    | cons o5 o4 =>
      cases o4 with
      | cons o6 o4 =>
        cases o4 with
        | cons o7 o4 =>
          cases o4
          have o5' : Rp K G4 _ (.int own) := o5
          cases o5'
          have o6' : Rp K G4 _ (.int ((small * 99529 + 14869 * (i : Int) * (i : Int) + 5499) % 2305843009213693921)) := o6
          cases o6'
          have o7' : Rp K G4 _ (.int 0) := o7
          cases o7'
          refine ⟨by show 3 ≤ sizeLine; decide, fun p hp => ?_⟩
          have v14 := v13.trans v4
          exact q p _ G4 (v14.trans (Vx.mut v4.gh hp)) (v14.hh.back hp) (v4.gh.back hp) ⟨own, _, 0, upd_same, fin0, fin1, Int.emod_nonneg _ (by decide), bt_range (Int.emod_nonneg _ (by decide)) (Int.lt_trans (Int.emod_lt_of_pos _ (by decide)) (by decide)), by decide, by decide⟩
end
end KP
set_option linter.all false
set_option maxRecDepth 100000
set_option maxHeartbeats 4000000
/-! the lists of the table and the plain table -/
namespace KP
open PySem PySem.Spec PyProof.Rows L2 KW K68
/-- the first place below zero -/
theorem entL_aux (l : List Rat) (k : Nat) : (((l.zipIdx k).map fun p => if p.1 < 0 then some p.2 else none).filterMap id).head? = (l.findIdx? fun q => decide (q < 0)).map (· + k) := by
  induction l generalizing k with
  | nil => rfl
  | cons q l ih =>
    rw [List.zipIdx_cons, List.map_cons, List.findIdx?_cons]
    by_cases h : q < 0
    · simp [h]
    · have := ih (k + 1)
      simp only [h, if_false, decide_false, Bool.false_eq_true]
      rw [List.filterMap_cons_none rfl, this]
      simp [Option.map_map, Function.comp_def, Nat.add_assoc, Nat.add_comm 1 k]
theorem entF_eq (l : List Rat) : entF l = l.dropLast.findIdx? fun q => decide (q < 0) := by
  unfold entF entL entO
  rw [entL_aux]
  cases List.findIdx? (fun q => decide (q < 0)) l.dropLast <;> simp
theorem entF_some {l : List Rat} {c N : Nat} (hl : l.length = N + 1) (h : entF l = some c) : c < N ∧ l.getD c 0 < 0 ∧ ∀ j, j < c → 0 ≤ l.getD j 0 := by
  rw [entF_eq, List.findIdx?_eq_some_iff_getElem] at h
  obtain ⟨h1, h2, h3⟩ := h
  have hd : l.dropLast.length = N := by rw [List.length_dropLast, hl]; rfl
  have gd : ∀ j (hj : j < l.dropLast.length), l.dropLast[j] = l.getD j 0 := fun j hj => by
    rw [List.getElem_dropLast, List.getD_eq_getElem?_getD, List.getElem?_eq_getElem (by omega)]
    rfl
  refine ⟨by omega, ?_, fun j hj => ?_⟩
  · rw [gd] at h2
    exact of_decide_eq_true h2
  · have h4 := h3 j hj
    rw [gd] at h4
    have h5 : ¬ l.getD j 0 < 0 := fun z => h4 (decide_eq_true z)
    exact Rat.not_lt.mp h5
theorem entF_none {l : List Rat} {N : Nat} (hl : l.length = N + 1) (h : entF l = none) : ∀ j, j < N → 0 ≤ l.getD j 0 := fun j hj => by
  rw [entF_eq, List.findIdx?_eq_none_iff] at h
  have e : l.getD j 0 = l.dropLast[j]'(by rw [List.length_dropLast]; omega) := by
    rw [List.getElem_dropLast, List.getD_eq_getElem?_getD, List.getElem?_eq_getElem (by omega)]
    rfl
  have := h (l.getD j 0) (by rw [e]; exact List.getElem_mem _)
  exact Rat.not_lt.mp (of_decide_eq_false this)
end KP
set_option linter.all false
set_option maxRecDepth 100000
set_option maxHeartbeats 4000000
namespace KP
open PySem PySem.Spec PyProof.Rows L2 KW K68
theorem minP_aux (ps : List (Int × Int)) : ∀ p : Int × Int, (minP p ps ∈ p :: ps) ∧ ∀ y ∈ p :: ps, (minP p ps).1 < y.1 ∨ ((minP p ps).1 = y.1 ∧ (minP p ps).2 ≤ y.2) := by
  induction ps with
  | nil => exact fun p => ⟨List.mem_cons_self .., fun y hy => by
      rw [List.mem_singleton.mp hy]
      exact .inr ⟨rfl, Int.le_refl _⟩⟩
  | cons x ps ih =>
    intro p
    have e : minP p (x :: ps) = minP (if leP x p then x else p) ps := rfl
    rw [e]
    obtain ⟨h1, h2⟩ := ih (if leP x p then x else p)
    have h3 := h2 _ (List.mem_cons_self ..)
    revert h1 h2 h3
    generalize hm : minP (if leP x p then x else p) ps = mn
    intro h1 h2 h3
    have hle : ∀ y ∈ ps, mn.1 < y.1 ∨ (mn.1 = y.1 ∧ mn.2 ≤ y.2) := fun y hy => h2 y (List.mem_cons_of_mem _ hy)
    by_cases hk : leP x p = true
    · rw [if_pos hk] at h1 h3
      have hk' := of_decide_eq_true hk
      refine ⟨?_, fun y hy => ?_⟩
      · rcases List.mem_cons.mp h1 with z | z
        · rw [z]; exact List.mem_cons_of_mem _ (List.mem_cons_self ..)
        · exact List.mem_cons_of_mem _ (List.mem_cons_of_mem _ z)
      · rcases List.mem_cons.mp hy with z | z
        · rw [z]
          omega
        · rcases List.mem_cons.mp z with z | z
          · rw [z]; exact h3
          · exact hle y z
    · rw [if_neg hk] at h1 h3
      have hk' : ¬ (x.1 < p.1 ∨ (x.1 = p.1 ∧ x.2 < p.2)) := fun z => hk (decide_eq_true z)
      refine ⟨?_, fun y hy => ?_⟩
      · rcases List.mem_cons.mp h1 with z | z
        · rw [z]; exact List.mem_cons_self ..
        · exact List.mem_cons_of_mem _ (List.mem_cons_of_mem _ z)
      · rcases List.mem_cons.mp hy with z | z
        · rw [z]; exact h3
        · rcases List.mem_cons.mp z with z | z
          · rw [z]
            omega
          · exact hle y z
theorem mem_lvL {RR : List (List Rat)} {bs : List Nat} {c : Nat} {t : Lv} : t ∈ lvL RR bs c ↔ ∃ i row, RR[i]? = some row ∧ 0 < row.getD c 0 ∧ t = (lastQ row / row.getD c 0, bs.getD i 0, i) := by
  unfold lvL lvO
  simp only [List.mem_filterMap, List.mem_map, id]
  constructor
  · rintro ⟨o, ⟨⟨row, i⟩, hp, rfl⟩, ho⟩
    rw [List.mem_zipIdx_iff_getElem?] at hp
    by_cases h : 0 < row.getD c 0
    · simp only [h, if_true] at ho
      cases ho
      exact ⟨i, row, hp, h, rfl⟩
    · simp only [h, if_false] at ho
      cases ho
  · rintro ⟨i, row, h1, h2, rfl⟩
    refine ⟨_, ⟨(row, i), List.mem_zipIdx_iff_getElem?.mpr h1, rfl⟩, ?_⟩
    simp only [h2, if_true]
theorem lo_le : ∀ (l : List Rat) (f : Rat), l.foldl loQ f ≤ f ∧ ∀ q ∈ l, l.foldl loQ f ≤ q
  | [], f => ⟨Rat.le_refl, fun q h => by cases h⟩
  | x :: l, f => by
    obtain ⟨h1, h2⟩ := lo_le l (loQ f x)
    have h3 : loQ f x ≤ f ∧ loQ f x ≤ x := by
      unfold loQ
      split
      · exact ⟨Rat.le_of_lt (by assumption), Rat.le_refl⟩
      · exact ⟨Rat.le_refl, Rat.not_lt.mp (by assumption)⟩
    refine ⟨Rat.le_trans h1 h3.1, fun q hq => ?_⟩
    rcases List.mem_cons.mp hq with z | z
    · rw [z]; exact Rat.le_trans h1 h3.2
    · exact h2 q z
theorem least_le {l : List Rat} {q : Rat} (h : q ∈ l) : leastQ l ≤ q := by
  cases l with
  | nil => cases h
  | cons x l =>
    obtain ⟨h1, h2⟩ := lo_le l x
    rcases List.mem_cons.mp h with z | z
    · rw [z]; exact h1
    · exact h2 q z
theorem hi_le : ∀ (l : List Rat) (f : Rat), f ≤ l.foldl hiQ f ∧ ∀ q ∈ l, q ≤ l.foldl hiQ f
  | [], f => ⟨Rat.le_refl, fun q h => by cases h⟩
  | x :: l, f => by
    obtain ⟨h1, h2⟩ := hi_le l (hiQ f x)
    have h3 : f ≤ hiQ f x ∧ x ≤ hiQ f x := by
      unfold hiQ
      split
      · exact ⟨Rat.le_of_lt (by assumption), Rat.le_refl⟩
      · exact ⟨Rat.le_refl, Rat.not_lt.mp (by assumption)⟩
    refine ⟨Rat.le_trans h3.1 h1, fun q hq => ?_⟩
    rcases List.mem_cons.mp hq with z | z
    · rw [z]; exact Rat.le_trans h3.2 h1
    · exact h2 q z
theorem most_le {l : List Rat} {q : Rat} (h : q ∈ l) : q ≤ mostQ l := by
  cases l with
  | nil => cases h
  | cons x l =>
    obtain ⟨h1, h2⟩ := hi_le l x
    rcases List.mem_cons.mp h with z | z
    · rw [z]; exact h1
    · exact h2 q z
/-- which row leaves -/
theorem leave_ok {RR : List (List Rat)} {bs : List Nat} {c : Nat} (h : lvL RR bs c ≠ []) : ∃ (i : Nat) (row : List Rat), leaveF RR bs c = (i : Int) ∧ RR[i]? = some row ∧ 0 < row.getD c 0 ∧
    ∀ (k : Nat) (row' : List Rat), RR[k]? = some row' → 0 < row'.getD c 0 → lastQ row / row.getD c 0 ≤ lastQ row' / row'.getD c 0 ∧ (lastQ row / row.getD c 0 = lastQ row' / row'.getD c 0 → bs.getD i 0 ≤ bs.getD k 0) := by
  have hm : (lvL RR bs c).map (·.1) ≠ [] := fun z => h (List.map_eq_nil_iff.mp z)
  have h0 : ∃ t ∈ lvL RR bs c, t.1 = lvLow (lvL RR bs c) := by
    obtain ⟨t, h1, h2⟩ := List.mem_map.mp (least_mem hm)
    exact ⟨t, h1, h2⟩
  obtain ⟨t0, ht0, et0⟩ := h0
  have hc : ∀ p : Int × Int, p ∈ lvCand (lvL RR bs c) ↔ ∃ t ∈ lvL RR bs c, t.1 = lvLow (lvL RR bs c) ∧ p = ((t.2.1 : Int), (t.2.2 : Int)) := fun p => by
    unfold lvCand
    simp only [List.mem_map, List.mem_filter, decide_eq_true_eq]
    constructor
    · rintro ⟨t, ⟨h1, h2⟩, rfl⟩
      exact ⟨t, h1, h2, rfl⟩
    · rintro ⟨t, h1, h2, rfl⟩
      exact ⟨t, ⟨h1, h2⟩, rfl⟩
  have hne : lvCand (lvL RR bs c) ≠ [] := fun z => by
    have := (hc _).mpr ⟨t0, ht0, et0, rfl⟩
    rw [z] at this
    cases this
  unfold leaveF
  revert hc hne
  generalize lvCand (lvL RR bs c) = C
  intro hc hne
  cases C with
  | nil => exact absurd rfl hne
  | cons p ps =>
    obtain ⟨m1, m2⟩ := minP_aux ps p
    obtain ⟨t, ht, e1, e2⟩ := (hc _).mp m1
    obtain ⟨i, row, r1, r2, rfl⟩ := mem_lvL.mp ht
    refine ⟨i, row, by show (minP p ps).2 = _; rw [e2], r1, r2, fun k row' k1 k2 => ?_⟩
    have hk : (lastQ row' / row'.getD c 0, bs.getD k 0, k) ∈ lvL RR bs c := mem_lvL.mpr ⟨k, row', k1, k2, rfl⟩
    have e1' : lastQ row / row.getD c 0 = lvLow (lvL RR bs c) := e1
    refine ⟨?_, fun e => ?_⟩
    · rw [e1']
      exact least_le (List.mem_map.mpr ⟨_, hk, rfl⟩)
    · have h3 := m2 _ ((hc _).mpr ⟨_, hk, by rw [← e1', e], rfl⟩)
      rw [e2] at h3
      simp only at h3
      omega
end KP
set_option linter.all false
set_option maxRecDepth 100000
set_option maxHeartbeats 4000000
/-! the list table agrees with the plain one, turn after turn -/
namespace KP
open PySem PySem.Spec PyProof.Rows L2 KW K68
structure Ag (m N : Nat) (t : Tb) (T : Tab) : Prop where
  rl : t.RR.length = m
  wd : ∀ r ∈ t.RR, r.length = N + 1
  ll : t.last.length = N + 1
  bl : t.bs.length = m
  tt : ∀ i row, t.RR[i]? = some row → ∀ j, j < N + 1 → T.T i j = row.getD j 0
  zz : ∀ j, j < N + 1 → T.z j = t.last.getD j 0
  bb : ∀ i, i < m → T.b i = t.bs.getD i 0
theorem getD_map {l : List Rat} {f : Rat → Rat} {j : Nat} (h : j < l.length) : (l.map f).getD j 0 = f (l.getD j 0) := by
  rw [List.getD_eq_getElem?_getD, List.getD_eq_getElem?_getD, List.getElem?_map, List.getElem?_eq_getElem h]
  rfl
theorem lessT_at {row other : List Rat} {c j : Nat} (h1 : j < row.length) (h2 : j < other.length) : (lessT row other c).getD j 0 = row.getD j 0 - row.getD c 0 * other.getD j 0 := by
  have e1 : row.getD j 0 = row[j] := by rw [List.getD_eq_getElem?_getD, List.getElem?_eq_getElem h1]; rfl
  have e2 : other.getD j 0 = other[j] := by rw [List.getD_eq_getElem?_getD, List.getElem?_eq_getElem h2]; rfl
  rw [e1, e2]
  have e3 : (lessT row other c)[j]? = some (row[j] - row.getD c 0 * other[j]) := by
    unfold lessT
    rw [List.getElem?_zipWith, List.getElem?_eq_getElem h1, List.getElem?_eq_getElem h2]
  rw [List.getD_eq_getElem?_getD, e3]
  rfl
theorem lessT_len {row other : List Rat} {c : Nat} (h : row.length = other.length) : (lessT row other c).length = row.length := by
  unfold lessT
  rw [List.length_zipWith, h, Nat.min_self]
section
variable {m N i c : Nat} {t : Tb} {T : Tab}
theorem Ag.row (a : Ag m N t T) (hi : i < m) : t.RR[i]? = some (rowAt t i) := by
  unfold rowAt
  rw [List.getD_eq_getElem?_getD, List.getElem?_eq_getElem (by rw [a.rl]; exact hi)]
  rfl
theorem Ag.rlen (a : Ag m N t T) (hi : i < m) : (rowAt t i).length = N + 1 := a.wd _ (List.mem_of_getElem? (a.row hi))
theorem Ag.plen (a : Ag m N t T) (hi : i < m) : (prow t i c).length = N + 1 := by
  unfold prow
  rw [List.length_map, a.rlen hi]
theorem Ag.prow_at (a : Ag m N t T) (hi : i < m) (hc : c < N + 1) {j : Nat} (hj : j < N + 1) : (prow t i c).getD j 0 = T.T i j / T.T i c := by
  unfold prow
  rw [getD_map (by rw [a.rlen hi]; exact hj), a.tt i _ (a.row hi) j hj, a.tt i _ (a.row hi) c hc]
theorem Ag.stepAt (a : Ag m N t T) {k : Nat} {row : List Rat} (h : (turnT t i c).RR[k]? = some row) : ∃ r0, t.RR[k]? = some r0 ∧ row = if k = i then prow t i c else lessT r0 (prow t i c) c := by
  have hk : k < t.RR.length := by
    have := (List.getElem?_eq_some_iff.mp h).1
    show k < t.RR.length
    have e : (turnT t i c).RR.length = t.RR.length := stepR_len _
    omega
  have h1 := stepR_at (i := i) (c := c) (dn := others t.RR.length i) (List.getElem?_eq_getElem hk)
  have h2 : (turnT t i c).RR[k]? = _ := h1
  rw [h] at h2
  cases h2
  refine ⟨_, List.getElem?_eq_getElem hk, ?_⟩
  by_cases z : k = i
  · rw [if_pos z, if_pos z]
  · rw [if_neg z, if_neg z, if_pos (mem_others.mpr ⟨hk, z⟩)]
theorem Ag.turn (a : Ag m N t T) (hi : i < m) (hc : c < N + 1) : Ag m N (turnT t i c) (K68.turn T i c) where
  rl := (stepR_len _).trans a.rl
  wd := fun r hr => by
    obtain ⟨k, hk, rfl⟩ := List.mem_iff_getElem.mp hr
    obtain ⟨r0, h0, e⟩ := a.stepAt (List.getElem?_eq_getElem hk)
    have l0 := a.wd r0 (List.mem_of_getElem? h0)
    rw [e]
    split
    · exact a.plen hi
    · rw [lessT_len (by rw [l0, a.plen hi]), l0]
  ll := by
    show (lessT t.last (prow t i c) c).length = _
    rw [lessT_len (by rw [a.ll, a.plen hi]), a.ll]
  bl := by
    show (t.bs.set i c).length = m
    rw [List.length_set, a.bl]
  tt := fun k row h j hj => by
    obtain ⟨r0, h0, e⟩ := a.stepAt h
    have l0 := a.wd r0 (List.mem_of_getElem? h0)
    rw [e]
    show (if k = i then _ else _) = _
    by_cases z : k = i
    · rw [if_pos z, if_pos z, a.prow_at hi hc hj]
    · rw [if_neg z, if_neg z, lessT_at (by omega) (by rw [a.plen hi]; exact hj), a.prow_at hi hc hj, a.tt k r0 h0 j hj, a.tt k r0 h0 c hc]
  zz := fun j hj => by
    show T.z j - T.z c * (T.T i j / T.T i c) = (lessT t.last (prow t i c) c).getD j 0
    rw [lessT_at (by rw [a.ll]; exact hj) (by rw [a.plen hi]; exact hj), a.prow_at hi hc hj, a.zz j hj, a.zz c hc]
  bb := fun k hk => by
    show (if k = i then c else T.b k) = (t.bs.set i c).getD k 0
    rw [List.getD_eq_getElem?_getD]
    by_cases z : k = i
    · rw [if_pos z, z, List.getElem?_set_self (by rw [a.bl]; exact hi)]
      rfl
    · rw [if_neg z, List.getElem?_set_ne (Ne.symm z), a.bb k hk, List.getD_eq_getElem?_getD]
end
end KP
set_option linter.all false
set_option maxRecDepth 100000
set_option maxHeartbeats 4000000
/-! the first table; a step -/
namespace KP
open PySem PySem.Spec PyProof.Rows L2 KW K68
def Aof (M : Mx) : Nat → Nat → Rat := fun i j => (M.getD i []).getD j 0 + 1
theorem getD_app1 {l k : List Rat} {j : Nat} (h : j < l.length) : (l ++ k).getD j 0 = l.getD j 0 := by
  rw [List.getD_eq_getElem?_getD, List.getD_eq_getElem?_getD, List.getElem?_append_left h]
theorem getD_app2 {l k : List Rat} {j : Nat} (h : l.length ≤ j) : (l ++ k).getD j 0 = k.getD (j - l.length) 0 := by
  rw [List.getD_eq_getElem?_getD, List.getD_eq_getElem?_getD, List.getElem?_append_right h]
theorem unitR_at {m i o : Nat} (h : o < m) : (unitR m i).getD o 0 = if o = i then 1 else 0 := by
  unfold unitR
  rw [List.getD_eq_getElem?_getD, List.getElem?_map, List.getElem?_range h]
  rfl
theorem unitR_len {m i : Nat} : (unitR m i).length = m := by
  unfold unitR
  rw [List.length_map, List.length_range]
theorem initRR_len (M : Mx) : (initRR M).length = M.length := by
  unfold initRR
  rw [List.length_map, List.length_zipIdx]
theorem initRR_inv {M : Mx} {i : Nat} {row : List Rat} (h : (initRR M)[i]? = some row) : ∃ r, M[i]? = some r ∧ row = initRow M.length i r := by
  have hi : i < M.length := by
    have := (List.getElem?_eq_some_iff.mp h).1
    rwa [initRR_len] at this
  have h1 := initRR_at (List.getElem?_eq_getElem hi)
  rw [h] at h1
  exact ⟨_, List.getElem?_eq_getElem hi, Option.some.inj h1⟩
theorem initRow_len {m i n : Nat} {r : List Rat} (h : r.length = n) : (initRow m i r).length = n + m + 1 := by
  unfold initRow
  rw [List.length_append, List.length_append, List.length_map, unitR_len, h]
  rfl
theorem ag0 {M : Mx} {n : Nat} (wd : ∀ r ∈ M, r.length = n) : Ag M.length (n + M.length) (initT M n) (tab0 n M.length (Aof M)) where
  rl := initRR_len M
  wd := fun row hr => by
    obtain ⟨k, hk, rfl⟩ := List.mem_iff_getElem.mp hr
    obtain ⟨r, h1, h2⟩ := initRR_inv (List.getElem?_eq_getElem hk)
    rw [h2, initRow_len (wd r (List.mem_of_getElem? h1))]
  ll := by
    show (List.replicate n (-1 : Rat) ++ List.replicate (M.length + 1) 0).length = _
    rw [List.length_append, List.length_replicate, List.length_replicate]
    omega
  bl := by
    show ((List.range M.length).map fun j => n + j).length = _
    rw [List.length_map, List.length_range]
  tt := fun i row h j hj => by
    obtain ⟨r, h1, rfl⟩ := initRR_inv h
    have rl := wd r (List.mem_of_getElem? h1)
    have hi := (List.getElem?_eq_some_iff.mp h1).1
    show (if j < n then Aof M i j else if j = n + M.length then 1 else if j = n + i then 1 else 0) = _
    unfold initRow
    have l1 : (r.map fun x => x + 1).length = n := by rw [List.length_map, rl]
    have l2 : ((r.map fun x => x + 1) ++ unitR M.length i).length = n + M.length := by rw [List.length_append, l1, unitR_len]
    by_cases h1' : j < n
    · rw [if_pos h1', getD_app1 (by rw [l2]; omega), getD_app1 (by rw [l1]; exact h1'), getD_map (by rw [rl]; exact h1')]
      unfold Aof
      have e : M.getD i [] = r := by rw [List.getD_eq_getElem?_getD, h1]; rfl
      rw [e]
    · rw [if_neg h1']
      by_cases h2 : j = n + M.length
      · rw [if_pos h2, getD_app2 (by rw [l2]; omega), l2, h2, Nat.sub_self]
        rfl
      · rw [if_neg h2, getD_app1 (by rw [l2]; omega), getD_app2 (by rw [l1]; omega), l1, unitR_at (by omega)]
        by_cases h3 : j = n + i
        · rw [if_pos h3, if_pos (by omega)]
        · rw [if_neg h3, if_neg (by omega)]
  zz := fun j hj => by
    show (if j < n then (-1 : Rat) else 0) = (List.replicate n (-1 : Rat) ++ List.replicate (M.length + 1) 0).getD j 0
    by_cases h : j < n
    · rw [if_pos h, getD_app1 (by rw [List.length_replicate]; exact h), List.getD_eq_getElem?_getD, List.getElem?_replicate, if_pos h]
      rfl
    · rw [if_neg h, getD_app2 (by rw [List.length_replicate]; omega), List.getD_eq_getElem?_getD, List.getElem?_replicate]
      split <;> rfl
  bb := fun i hi => by
    show n + i = ((List.range M.length).map fun j => n + j).getD i 0
    rw [List.getD_eq_getElem?_getD, List.getElem?_map, List.getElem?_range hi]
    rfl
theorem lastQ_at {r : List Rat} {N : Nat} (h : r.length = N + 1) : lastQ r = r.getD N 0 := by
  unfold lastQ
  rw [List.getLast?_eq_getElem?, h, List.getD_eq_getElem?_getD]
  rfl
theorem Ag.step {m n c : Nat} {t : Tb} {T : Tab} {A : Nat → Nat → Rat} (a : Ag m (n + m) t T) (co : Comes n m A T) (hA : ∀ i j, i < m → j < n → 1 ≤ A i j) (hm : 0 < m) (he : entF t.last = some c) :
    lvL t.RR t.bs c ≠ [] ∧ ∃ i : Nat, leaveF t.RR t.bs c = (i : Int) ∧ Step m (n + m) T i c := by
  obtain ⟨c1, c2, c3⟩ := entF_some a.ll he
  have cz : T.z c < 0 := by rw [a.zz c (by omega)]; exact c2
  obtain ⟨i0, hi0, hp0⟩ := co.bound hA hm c1 cz
  have tc : ∀ i, i < m → T.T i c = (rowAt t i).getD c 0 := fun i hi => a.tt i _ (a.row hi) c (by omega)
  have tN : ∀ i, i < m → T.T i (n + m) = lastQ (rowAt t i) := fun i hi => by rw [lastQ_at (a.rlen hi), a.tt i _ (a.row hi) (n + m) (by omega)]
  have hne : lvL t.RR t.bs c ≠ [] := fun z => by
    have : (lastQ (rowAt t i0) / (rowAt t i0).getD c 0, t.bs.getD i0 0, i0) ∈ lvL t.RR t.bs c := mem_lvL.mpr ⟨i0, _, a.row hi0, by rw [← tc i0 hi0]; exact hp0, rfl⟩
    rw [z] at this
    cases this
  obtain ⟨i, row, h1, h2, h3, h4⟩ := leave_ok hne
  have im : i < m := by
    have := (List.getElem?_eq_some_iff.mp h2).1
    rwa [a.rl] at this
  have er : row = rowAt t i := Option.some.inj (h2.symm.trans (a.row im))
  subst er
  refine ⟨hne, i, h1, im, c1, cz, fun j hj => by rw [a.zz j (by omega)]; exact c3 j hj, by rw [tc i im]; exact h3, fun k hk hp => ?_, fun k hk hp e => ?_⟩
  · rw [tc i im, tc k hk, tN i im, tN k hk]
    exact (h4 k _ (a.row hk) (by rw [← tc k hk]; exact hp)).1
  · rw [tc i im, tc k hk, tN i im, tN k hk] at e
    rw [a.bb i im, a.bb k hk]
    exact (h4 k _ (a.row hk) (by rw [← tc k hk]; exact hp)).2 e
end KP
set_option linter.all false
set_option maxRecDepth 100000
set_option maxHeartbeats 4000000
/-! the run -/
namespace KP
open PySem PySem.Spec PyProof.Rows L2 KW K68
def stepT (t : Tb) : Tb := match entF t.last with
  | some c => turnT t (leaveF t.RR t.bs c).toNat c
  | none => t
def itT (t0 : Tb) : Nat → Tb
  | 0 => t0
  | k + 1 => stepT (itT t0 k)
def Going (t0 : Tb) (K : Nat) : Prop := ∀ j, j < K → entF (itT t0 j).last ≠ none
section
variable {M : Mx} {n : Nat}
theorem hist_it (wd : ∀ r ∈ M, r.length = n) (hA : ∀ i j, i < M.length → j < n → 1 ≤ Aof M i j) (hm : 0 < M.length) : ∀ K, Going (initT M n) K → ∃ (h : Nat → Tab) (rc : Nat → Nat × Nat), Hist M.length (n + M.length) h rc K ∧ h 0 = tab0 n M.length (Aof M) ∧ Ag M.length (n + M.length) (itT (initT M n) K) (h K)
  | 0, _ => ⟨fun _ => tab0 n M.length (Aof M), fun _ => (0, 0), ⟨good0, feas0, fun k hk => absurd hk (Nat.not_lt_zero k), fun k hk => absurd hk (Nat.not_lt_zero k)⟩, rfl, ag0 wd⟩
  | K + 1, g => by
    obtain ⟨h, rc, hi, h0, a⟩ := hist_it wd hA hm K fun j hj => g j (by omega)
    cases he : entF (itT (initT M n) K).last with
    | none => exact absurd he (g K (Nat.lt_succ_self K))
    | some c =>
      obtain ⟨l1, i, l2, st⟩ := a.step (hi.comes h0) hA hm he
      have e : itT (initT M n) (K + 1) = turnT (itT (initT M n) K) i c := by
        show stepT (itT (initT M n) K) = _
        unfold stepT
        rw [he]
        show turnT _ (leaveF _ _ c).toNat c = _
        rw [l2, Int.toNat_natCast]
      refine ⟨_, _, hi.more st, ?_, ?_⟩
      · show (if 0 = K + 1 then _ else h 0) = _
        rw [if_neg (by omega), h0]
      · show Ag _ _ _ (if K + 1 = K + 1 then _ else h (K + 1))
        rw [if_pos rfl, e]
        exact a.turn st.hr (by have := st.hc; omega)
end
end KP
set_option linter.all false
set_option maxRecDepth 100000
set_option maxHeartbeats 4000000
/-! the run's sizes: RunOk -/
namespace KP
open PySem PySem.Spec PyProof.Rows L2 KW K68
theorem bq_of {q : Rat} {e d : Int} {b k : Nat} (hd : d ≠ 0) (h : q = (e : Rat) / d) (he : e.natAbs ≤ 2 ^ b) (hd2 : d.natAbs ≤ 2 ^ b) (hb : b < k) : Bq k q := by
  obtain ⟨h1, h2⟩ := num_den_le hd h
  have h3 : 2 ^ b < 2 ^ k := Nat.pow_lt_pow_right (by decide) hb
  refine ⟨?_, ?_⟩
  · show q.num.natAbs < 2 ^ k
    omega
  · show ((q.den : Int)).natAbs < 2 ^ k
    rw [Int.natAbs_natCast]
    omega
theorem Ag.sizes {m N b k : Nat} {t : Tb} {T : Tab} (a : Ag m N t T) (s : Szd m N (2 ^ b) T) (hb : b < k) : (∀ r ∈ t.RR, ∀ q ∈ r, Bq k q) ∧ ∀ q ∈ t.last, Bq k q := by
  obtain ⟨d, d0, dS, h1, h2⟩ := s
  constructor
  · intro r hr q hq
    obtain ⟨i, hi, rfl⟩ := List.mem_iff_getElem.mp hr
    obtain ⟨j, hj, rfl⟩ := List.mem_iff_getElem.mp hq
    have lr := a.wd _ (List.getElem_mem hi)
    obtain ⟨e, e1, e2⟩ := h1 i j (by rw [← a.rl]; exact hi) (by omega)
    rw [a.tt i _ (List.getElem?_eq_getElem hi) j (by omega), List.getD_eq_getElem?_getD, List.getElem?_eq_getElem hj] at e1
    exact bq_of d0 e1 e2 dS hb
  · intro q hq
    obtain ⟨j, hj, rfl⟩ := List.mem_iff_getElem.mp hq
    have lr := a.ll
    obtain ⟨e, e1, e2⟩ := h2 j (by omega)
    rw [a.zz j (by omega), List.getD_eq_getElem?_getD, List.getElem?_eq_getElem hj] at e1
    exact bq_of d0 e1 e2 dS hb
/-- what a matrix must be for its run -/
structure MRun (M : Mx) (n b : Nat) : Prop where
  m0 : 0 < M.length
  n0 : 0 < n
  wd : ∀ r ∈ M, r.length = n
  pos : ∀ r ∈ M, ∀ q ∈ r, 0 ≤ q
  dn : ∃ d : Int, d ≠ 0 ∧ d.natAbs ≤ 2 ^ b ∧ ∀ r ∈ M, ∀ q ∈ r, ∃ e : Int, q + 1 = (e : Rat) / d ∧ e.natAbs ≤ 2 ^ b
theorem MRun.at {M : Mx} {n b : Nat} (h : MRun M n b) {i j : Nat} (hi : i < M.length) (hj : j < n) : ∃ r ∈ M, ∃ q ∈ r, Aof M i j = q + 1 := by
  have e1 : M.getD i [] = M[i] := by rw [List.getD_eq_getElem?_getD, List.getElem?_eq_getElem hi]; rfl
  have hl := h.wd _ (List.getElem_mem hi)
  have hj' : j < (M[i]).length := by omega
  refine ⟨_, List.getElem_mem hi, _, List.getElem_mem hj', ?_⟩
  unfold Aof
  rw [e1, List.getD_eq_getElem?_getD, List.getElem?_eq_getElem hj']
  rfl
theorem MRun.ge {M : Mx} {n b : Nat} (h : MRun M n b) : ∀ i j, i < M.length → j < n → 1 ≤ Aof M i j := fun i j hi hj => by
  obtain ⟨r, hr, q, hq, e⟩ := h.at hi hj
  have := h.pos r hr q hq
  rw [e]
  grind
theorem MRun.szd {M : Mx} {n b : Nat} (h : MRun M n b) : Szd M.length (n + M.length) (2 ^ b) (tab0 n M.length (Aof M)) := by
  obtain ⟨d, d0, d1, hd⟩ := h.dn
  refine szd0 d0 d1 fun i j hi hj => ?_
  obtain ⟨r, hr, q, hq, e⟩ := h.at hi hj
  rw [e]
  exact hd r hr q hq
/-- all tables on the way -/
theorem MRun.tab {M : Mx} {n b K : Nat} (h : MRun M n b) (g : Going (initT M n) K) : ∃ T, Ag M.length (n + M.length) (itT (initT M n) K) T ∧ Comes n M.length (Aof M) T ∧ Szd M.length (n + M.length) (2 ^ ex b M.length) T ∧ K < 2 ^ (n + M.length) := by
  obtain ⟨f, rc, hi, h0, a⟩ := hist_it h.wd h.ge h.m0 K g
  exact ⟨f K, a, hi.comes h0, (hi.comes h0).szd h.szd, hi.short⟩
def RunM (M : Mx) (n : Nat) : Nat → Tb → Prop := fun k t => ∃ K, t = itT (initT M n) K ∧ Going (initT M n) K ∧ k + K = 2 ^ (n + M.length)
theorem MRun.run {M : Mx} {n b : Nat} (h : MRun M n b) (hb : ex b M.length < 3990) (h1 : n + M.length + 1 ≤ 1000) (h2 : M.length ≤ 100) : RunOk (n + M.length + 1) (RunM M n) where
  sz := fun k t hr => by
    obtain ⟨K, rfl, g, _⟩ := hr
    obtain ⟨T, a, co, sz, _⟩ := h.tab g
    refine ⟨by rw [a.ll]; exact h1, fun q hq => ?_⟩
    have := (a.sizes sz hb).2 q hq
    exact ⟨this.n, this.d⟩
  go := fun k t c hr he => by
    obtain ⟨K, rfl, g, hk⟩ := hr
    obtain ⟨T, a, co, sz, hK⟩ := h.tab g
    obtain ⟨l1, i, l2, st⟩ := a.step co h.ge h.m0 he
    have e : itT (initT M n) (K + 1) = turnT (itT (initT M n) K) i c := by
      show stepT (itT (initT M n) K) = _
      unfold stepT
      rw [he]
      show turnT _ (leaveF _ _ c).toNat c = _
      rw [l2, Int.toNat_natCast]
    have g2 : Going (initT M n) (K + 1) := fun j hj => by
      by_cases z : j = K
      · rw [z, he]; exact Option.some_ne_none c
      · exact g j (by omega)
    obtain ⟨T2, a2, co2, sz2, hK2⟩ := h.tab g2
    have s1 := a.sizes sz hb
    have s2 := a2.sizes sz2 hb
    rw [e] at s2
    have c1 := st.hc
    refine ⟨⟨by rw [a.bl, a.rl], by rw [a.rl]; exact h2, fun r hr => by rw [a.wd r hr]; omega, fun r hr q hq => ⟨(s1.1 r hr q hq).n, (s1.1 r hr q hq).d⟩, l1⟩, i, l2, ⟨by rw [a.rl]; exact st.hr, by rw [a.rl]; exact h2, a.wd, a.ll, h1, by omega, by rw [a.bl, a.rl], ?_, fun r hr q hq => ⟨(s1.1 r hr q hq).n, (s1.1 r hr q hq).d⟩, fun q hq => ⟨(s1.2 q hq).n, (s1.2 q hq).d⟩, fun r hr q hq => ⟨(s2.1 r hr q hq).n, (s2.1 r hr q hq).d⟩, fun q hq => ⟨(s2.2 q hq).n, (s2.2 q hq).d⟩⟩, k - 1, by omega, K + 1, e.symm, g2, by omega⟩
    rw [← a.tt i _ (a.row st.hr) c (by omega)]
    exact st.ne
/-- the end is one -/
theorem run_end {M : Mx} {n k k' : Nat} {t t' : Tb} (h : RunM M n k t) (h' : RunM M n k' t') (e : entF t.last = none) (e' : entF t'.last = none) : t = t' := by
  obtain ⟨K, rfl, g, _⟩ := h
  obtain ⟨K', rfl, g', _⟩ := h'
  rcases Nat.lt_trichotomy K K' with z | z | z
  · exact absurd e (g' K z)
  · rw [z]
  · exact absurd e' (g K' z)
/-- there is an end -/
theorem MRun.ends {M : Mx} {n b : Nat} (h : MRun M n b) : ∃ K, Going (initT M n) K ∧ entF (itT (initT M n) K).last = none := Classical.byContradiction fun no => by
  have all : ∀ K, Going (initT M n) K := fun K => by
    induction K with
    | zero => exact fun j hj => absurd hj (Nat.not_lt_zero j)
    | succ K ih =>
      intro j hj
      by_cases z : j = K
      · rw [z]
        exact fun e => no ⟨K, ih, e⟩
      · exact ih j (by omega)
  obtain ⟨_, _, _, _, hK⟩ := h.tab (all (2 ^ (n + M.length)))
  omega
end KP
set_option linter.all false
set_option maxRecDepth 100000
set_option maxHeartbeats 4000000
/-! what the last table tells -/
namespace KP
open PySem PySem.Spec PyProof.Rows L2 KW K68
theorem lookup_no {l : List (Nat × Rat)} {c : Nat} (h : ∀ p ∈ l, p.1 ≠ c) : l.lookup c = none := by
  induction l with
  | nil => rfl
  | cons p l ih =>
    obtain ⟨a, v⟩ := p
    have h1 : a ≠ c := h (a, v) (List.mem_cons_self ..)
    have h2 : (c == a) = false := beq_false_of_ne (Ne.symm h1)
    rw [List.lookup_cons, h2]
    exact ih fun p hp => h p (List.mem_cons_of_mem _ hp)
theorem lookup_one {l : List (Nat × Rat)} {c : Nat} {v : Rat} (h : (c, v) ∈ l) (u : ∀ v', (c, v') ∈ l → v' = v) : l.lookup c = some v := by
  induction l with
  | nil => cases h
  | cons p l ih =>
    obtain ⟨a, x⟩ := p
    rw [List.lookup_cons]
    by_cases z : c = a
    · rw [z, beq_self_eq_true]
      show some x = some v
      rw [u x (by rw [z]; exact List.mem_cons_self ..)]
    · rw [beq_false_of_ne z]
      refine ih ?_ fun v' hv => u v' (List.mem_cons_of_mem _ hv)
      rcases List.mem_cons.mp h with k | k
      · exact absurd (congrArg Prod.fst k) z
      · exact k
section
variable {m N : Nat} {t : Tb} {T : Tab}
theorem Ag.zip_at (a : Ag m N t T) {p : Nat × Rat} : p ∈ List.zipWith (fun b r => (b, lastQ r)) t.bs t.RR ↔ ∃ i, i < m ∧ p = (T.b i, T.T i N) := by
  have key : ∀ i, i < m → (List.zipWith (fun b r => (b, lastQ r)) t.bs t.RR)[i]? = some (T.b i, T.T i N) := fun i hi => by
    have hb : t.bs[i]? = some (t.bs.getD i 0) := by
      rw [List.getD_eq_getElem?_getD, List.getElem?_eq_getElem (by rw [a.bl]; exact hi)]
      rfl
    rw [List.getElem?_zipWith, hb, a.row hi, a.bb i hi, a.tt i _ (a.row hi) N (by omega), ← lastQ_at (a.rlen hi)]
  constructor
  · intro hp
    obtain ⟨i, hi, e⟩ := List.mem_iff_getElem.mp hp
    have hl : i < m := by
      rw [List.length_zipWith, a.bl, a.rl, Nat.min_self] at hi
      exact hi
    refine ⟨i, hl, ?_⟩
    have := key i hl
    rw [List.getElem?_eq_getElem hi, e] at this
    exact Option.some.inj this
  · rintro ⟨i, hi, rfl⟩
    exact List.mem_of_getElem? (key i hi)
theorem Ag.cols (a : Ag m N t T) (g : Good m N T) (c : Nat) : colsF t.RR t.bs c = val m N T c := by
  unfold colsF
  by_cases h : ∃ i, i < m ∧ T.b i = c
  · obtain ⟨i, hi, rfl⟩ := h
    rw [val_base g hi, lookup_one (a.zip_at.mpr ⟨i, hi, rfl⟩) fun v' hv => ?_]
    · rfl
    · obtain ⟨k, hk, e⟩ := a.zip_at.mp hv
      have e1 := congrArg Prod.fst e
      have e2 := congrArg Prod.snd e
      simp only at e1 e2
      rw [e2, g.inj i k hi hk e1]
  · rw [val_non h, lookup_no fun p hp e => ?_]
    · rfl
    · obtain ⟨i, hi, rfl⟩ := a.zip_at.mp hp
      exact h ⟨i, hi, e⟩
theorem Ag.nodup (a : Ag m N t T) (g : Good m N T) : t.bs.Nodup := by
  rw [List.nodup_iff_pairwise_ne, List.pairwise_iff_getElem]
  intro i j hi hj hij e
  have him : i < m := by rw [← a.bl]; exact hi
  have hjm : j < m := by rw [← a.bl]; exact hj
  have e1 := a.bb i him
  have e2 := a.bb j hjm
  rw [List.getD_eq_getElem?_getD, List.getElem?_eq_getElem hi] at e1
  rw [List.getD_eq_getElem?_getD, List.getElem?_eq_getElem hj] at e2
  have := g.inj i j him hjm (by rw [e1, e2]; exact e)
  omega
end
end KP
set_option linter.all false
set_option maxRecDepth 100000
set_option maxHeartbeats 4000000
/-! SolOk -/
namespace KP
open PySem PySem.Spec PyProof.Rows L2 KW K68
theorem sum_sm (f : Nat → Rat) : ∀ n, ((List.range n).map f).sum = sm n f
  | 0 => rfl
  | n + 1 => by
    rw [List.range_succ, List.map_append, List.sum_append, sum_sm f n]
    show sm n f + (f n + 0) = sm n f + f n
    rw [Rat.add_zero]
theorem take_rm (f : Nat → Rat) {n k : Nat} (h : k ≤ n) : ((List.range n).map f).take k = (List.range k).map f := by
  rw [← List.map_take, List.take_range, Nat.min_eq_left h]
theorem sm_over {f : Nat → Rat} {d : Int} {S : Nat} (d0 : d ≠ 0) : ∀ {k : Nat}, (∀ j, j < k → ∃ e : Int, f j = (e : Rat) / d ∧ e.natAbs ≤ S) → ∃ e : Int, sm k f = (e : Rat) / d ∧ e.natAbs ≤ k * S
  | 0, _ => ⟨0, by show (0 : Rat) = _; rw [Rat.div_def]; simp, by simp⟩
  | k + 1, h => by
    obtain ⟨e1, h1, h2⟩ := sm_over d0 (k := k) fun j hj => h j (by omega)
    obtain ⟨e2, h3, h4⟩ := h k (Nat.lt_succ_self k)
    refine ⟨e1 + e2, ?_, ?_⟩
    · show sm k f + f k = _
      rw [h1, h3, Rat.intCast_add, Rat.div_def, Rat.div_def, Rat.div_def, Rat.add_mul]
    · rw [Nat.add_mul, Nat.one_mul]
      have := Int.natAbs_add_le e1 e2
      omega
theorem val_over {m N S : Nat} {T : Tab} {d : Int} (g : Good m N T) (d0 : d ≠ 0) (h : ∀ i j, i < m → j < N + 1 → ∃ e : Int, T.T i j = (e : Rat) / d ∧ e.natAbs ≤ S) (v : Nat) : ∃ e : Int, val m N T v = (e : Rat) / d ∧ e.natAbs ≤ S := by
  by_cases z : ∃ i, i < m ∧ T.b i = v
  · obtain ⟨i, hi, rfl⟩ := z
    rw [val_base g hi]
    exact h i N hi (by omega)
  · rw [val_non z]
    exact ⟨0, by rw [Rat.div_def]; simp, by simp⟩
section
variable {M : Mx} {n b K : Nat}
structure Fin (M : Mx) (n b : Nat) (t : Tb) (T : Tab) (d : Int) : Prop where
  ag : Ag M.length (n + M.length) t T
  co : Comes n M.length (Aof M) T
  la : Last n M.length (Aof M) (val M.length (n + M.length) T) (fun i => T.z (n + i)) (T.z (n + M.length))
  d0 : d ≠ 0
  dS : d.natAbs ≤ 2 ^ ex b M.length
  tS : ∀ i j, i < M.length → j < n + M.length + 1 → ∃ e : Int, T.T i j = (e : Rat) / d ∧ e.natAbs ≤ 2 ^ ex b M.length
  zS : ∀ j, j < n + M.length + 1 → ∃ e : Int, T.z j = (e : Rat) / d ∧ e.natAbs ≤ 2 ^ ex b M.length
theorem MRun.fin (h : MRun M n b) (g : Going (initT M n) K) (he : entF (itT (initT M n) K).last = none) : ∃ T d, Fin M n b (itT (initT M n) K) T d := by
  obtain ⟨T, a, co, ⟨d, d0, dS, h1, h2⟩, _⟩ := h.tab g
  exact ⟨T, d, a, co, co.last fun j hj => by rw [a.zz j (by omega)]; exact entF_none a.ll he j hj, d0, dS, h1, h2⟩
variable {t : Tb} {T : Tab} {d : Int}
theorem Fin.cols (f : Fin M n b t T d) : colsL t n = (List.range n).map (val M.length (n + M.length) T) := by
  unfold colsL
  exact List.map_congr_left fun c _ => f.ag.cols f.co.good c
theorem Fin.whole (f : Fin M n b t T d) : wholeQ t n = T.z (n + M.length) := by
  unfold wholeQ
  rw [f.cols, sum_sm]
  exact f.la.sx
theorem Fin.rows (f : Fin M n b t T d) : rowsL t n M.length = (List.range M.length).map fun i => T.z (n + i) := by
  unfold rowsL
  apply List.ext_getElem?
  intro i
  by_cases hi : i < M.length
  · rw [List.getElem?_take_of_lt hi, List.getElem?_drop, List.getElem?_map, List.getElem?_range hi, List.getElem?_eq_getElem (by rw [f.ag.ll]; omega)]
    show _ = some (T.z (n + i))
    rw [f.ag.zz (n + i) (by omega), List.getD_eq_getElem?_getD, List.getElem?_eq_getElem (by rw [f.ag.ll]; omega)]
    rfl
  · rw [List.getElem?_eq_none (by rw [List.length_take]; omega), List.getElem?_eq_none (by rw [List.length_map, List.length_range]; omega)]
theorem Fin.sol (f : Fin M n b t T d) (h : MRun M n b) (hb : ex b M.length + 7 < 3990) (n64 : n ≤ 64) (m64 : M.length ≤ 64) : SolOk t n M.length where
  nd := f.ag.nodup f.co.good
  ne := fun r hr z => by
    have := f.ag.wd r hr
    rw [z] at this
    exact absurd this (by simp)
  sz := by rw [f.ag.rl]; omega
  ll := by rw [f.ag.ll]; omega
  l1 := by rw [f.ag.ll]; omega
  sum := by
    rw [f.cols]
    refine ⟨fun q hq => ?_, fun k hk => ?_⟩
    · obtain ⟨c, hc, rfl⟩ := List.mem_map.mp hq
      obtain ⟨e, e1, e2⟩ := val_over f.co.good f.d0 f.tS c
      have := bq_of f.d0 e1 e2 f.dS (k := 3990) (by omega)
      exact ⟨this.n, this.d⟩
    · rw [List.length_map, List.length_range] at hk
      rw [take_rm _ hk, sum_sm]
      obtain ⟨e, e1, e2⟩ := sm_over f.d0 (k := k) (f := val M.length (n + M.length) T) fun j hj => val_over f.co.good f.d0 f.tS j
      have h3 : k * 2 ^ ex b M.length ≤ 2 ^ (ex b M.length + 6) := by
        rw [Nat.pow_add, Nat.mul_comm]
        exact Nat.mul_le_mul_left _ (by show k ≤ 64; omega)
      have h4 : 2 ^ ex b M.length ≤ 2 ^ (ex b M.length + 6) := Nat.pow_le_pow_right (by decide) (by omega)
      have := bq_of f.d0 e1 (Nat.le_trans e2 h3) (Nat.le_trans f.dS h4) (k := 3990) (by omega)
      exact ⟨this.n, this.d⟩
  nz := by
    rw [f.whole]
    have := f.la.pos h.n0
    grind
  sw := by
    rw [f.whole]
    obtain ⟨e, e1, e2⟩ := f.zS (n + M.length) (by omega)
    have hp := f.la.pos h.n0
    have e0 : e ≠ 0 := fun z => by
      rw [e1, z] at hp
      rw [Rat.div_def] at hp
      simp at hp
    have : Bq 3990 (1 / T.z (n + M.length)) := bq_of (b := ex b M.length) (d := e) (e := d) e0 (by rw [e1, Rat.div_def, Rat.div_def, Rat.div_def, Rat.one_mul, Rat.inv_mul_rev, Rat.inv_inv]) f.dS e2 (by omega)
    exact ⟨this.n, this.d⟩
  sl := fun q hq => by
    obtain ⟨j, hj, rfl⟩ := List.mem_iff_getElem.mp hq
    have lr := f.ag.ll
    obtain ⟨e, e1, e2⟩ := f.zS j (by omega)
    rw [f.ag.zz j (by omega), List.getD_eq_getElem?_getD, List.getElem?_eq_getElem hj] at e1
    have := bq_of f.d0 e1 e2 f.dS (k := 3990) (by omega)
    exact ⟨this.n, this.d⟩
end
end KP
set_option linter.all false
set_option maxRecDepth 100000
set_option maxHeartbeats 4000000
/-! what matrix_told tells: there is one, and it is a solution -/
namespace KP
open PySem PySem.Spec PyProof.Rows L2 KW K68
def ent (M : Mx) : Nat → Nat → Rat := fun i j => (M.getD i []).getD j 0
theorem Sol.congr {m n : Nat} {M : Nat → Nat → Rat} {v : Rat} {p q p' q' : Nat → Rat} (s : K68.Sol m n M v p q) (hp : ∀ i, i < m → p' i = p i) (hq : ∀ j, j < n → q' j = q j) : K68.Sol m n M v p' q' where
  ps := fun i hi => by rw [hp i hi]; exact s.ps i hi
  qs := fun j hj => by rw [hq j hj]; exact s.qs j hj
  sp := by rw [sm_congr hp]; exact s.sp
  sq := by rw [sm_congr hq]; exact s.sq
  least := fun j hj => by
    rw [sm_congr (g := fun i => p i * M i j) fun i hi => by rw [hp i hi]]
    exact s.least j hj
  most := fun i hi => by
    rw [sm_congr (g := fun j => q j * M i j) fun j hj => by rw [hq j hj]]
    exact s.most i hi
structure Best (M : Mx) (n k : Nat) (x : Told) : Prop where
  tl : Tl M n x
  sol : K68.Sol M.length n (ent M) x.v (fun i => x.rows.getD i 0) (fun j => x.cols.getD j 0)
  rl : x.rows.length = M.length
  cl : x.cols.length = n
  vS : Bq k x.v
  rS : ∀ q ∈ x.rows, Bq k q
  cS : ∀ q ∈ x.cols, Bq k q
  ov : ∃ W : Int, W ≠ 0 ∧ W.natAbs ≤ 2 ^ k ∧ (∀ q ∈ x.rows, Ov W k q) ∧ ∀ q ∈ x.cols, Ov W k q
theorem div_over {a w : Rat} {e f d : Int} (d0 : d ≠ 0) (f0 : f ≠ 0) (h : a = (e : Rat) / d) (hw : w = (f : Rat) / d) : a / w = (e : Rat) / f := by
  have hd : (d : Rat) ≠ 0 := cast_ne d0
  have hf : (f : Rat) ≠ 0 := cast_ne f0
  rw [h, hw]
  grind
theorem MRun.told {M : Mx} {n b : Nat} (h : MRun M n b) (ok : Mok M n) (hb : ex b M.length + 7 < 3990) : ∃ x, Best M n (ex b M.length + 2) x := by
  have m64 := ok.m64
  have n64 : n ≤ 64 := by
    have h1 := ok.sz
    have h2 : 1 * n ≤ M.length * n := Nat.mul_le_mul_right _ ok.m1
    omega
  obtain ⟨K, g, he⟩ := h.ends
  obtain ⟨T, d, f⟩ := h.fin g he
  revert f
  have hr : RunM M n (2 ^ (n + M.length) - K) (itT (initT M n) K) := by
    obtain ⟨_, _, _, _, hK⟩ := h.tab g
    exact ⟨K, rfl, g, by omega⟩
  have r0 : RunM M n (2 ^ (n + M.length)) (initT M n) := ⟨0, rfl, fun j hj => absurd hj (Nat.not_lt_zero j), rfl⟩
  revert hr he
  generalize itT (initT M n) K = t
  intro he hr f
  have hw := f.la.pos h.n0
  obtain ⟨w, w1, w2⟩ := f.zS (n + M.length) (by omega)
  have w0 : w ≠ 0 := fun z => by
    rw [w1, z, Rat.div_def] at hw
    simp at hw
  have er : (solT t n M.length).rows = (List.range M.length).map fun i => T.z (n + i) / T.z (n + M.length) := by
    show (rowsL t n M.length).map (fun x => x / wholeQ t n) = _
    rw [f.rows, f.whole, List.map_map]
    rfl
  have ec : (solT t n M.length).cols = (List.range n).map fun j => val M.length (n + M.length) T j / T.z (n + M.length) := by
    show (colsL t n).map (fun x => x / wholeQ t n) = _
    rw [f.cols, f.whole, List.map_map]
    rfl
  have ev : (solT t n M.length).v = 1 / T.z (n + M.length) - 1 := by
    show 1 / wholeQ t n - 1 = _
    rw [f.whole]
  refine ⟨solT t n M.length, ⟨ok, n + M.length + 1, _, RunM M n, t, h.run (by omega) (by omega) (by omega), r0, fun m' t' h1 h2 => run_end h1 hr h2 he, f.sol h hb n64 m64, rfl⟩, ?_, ?_, ?_, ?_, ?_, ?_, ?_⟩
  · rw [ev]
    refine Sol.congr (Last.sol (M := ent M) f.la h.n0) (fun i hi => ?_) fun j hj => ?_
    · rw [er, List.getD_eq_getElem?_getD, List.getElem?_map, List.getElem?_range hi]
      rfl
    · rw [ec, List.getD_eq_getElem?_getD, List.getElem?_map, List.getElem?_range hj]
      rfl
  · rw [er, List.length_map, List.length_range]
  · rw [ec, List.length_map, List.length_range]
  · rw [ev]
    have e : 1 / T.z (n + M.length) - 1 = ((d - w : Int) : Rat) / w := by
      have hd : (d : Rat) ≠ 0 := cast_ne f.d0
      have hw' : (w : Rat) ≠ 0 := cast_ne w0
      rw [w1, Rat.intCast_sub]
      grind
    have h1 := Int.natAbs_sub_le d w
    have h2 := f.dS
    have h3 : 2 ^ (ex b M.length + 1) = 2 * 2 ^ ex b M.length := by rw [Nat.pow_succ]; omega
    exact bq_of (b := ex b M.length + 1) w0 e (by omega) (by omega) (by omega)
  · intro q hq
    rw [er] at hq
    obtain ⟨i, hi, rfl⟩ := List.mem_map.mp hq
    rw [List.mem_range] at hi
    obtain ⟨e, e1, e2⟩ := f.zS (n + i) (by omega)
    exact bq_of w0 (div_over f.d0 w0 e1 w1) e2 w2 (by omega)
  · intro q hq
    rw [ec] at hq
    obtain ⟨j, hj, rfl⟩ := List.mem_map.mp hq
    obtain ⟨e, e1, e2⟩ := val_over f.co.good f.d0 f.tS j
    exact bq_of w0 (div_over f.d0 w0 e1 w1) e2 w2 (by omega)
  · refine ⟨w, w0, Nat.le_trans w2 (two_le (by omega)), fun q hq => ?_, fun q hq => ?_⟩
    · rw [er] at hq
      obtain ⟨i, hi, rfl⟩ := List.mem_map.mp hq
      rw [List.mem_range] at hi
      obtain ⟨e, e1, e2⟩ := f.zS (n + i) (by omega)
      exact ⟨e, div_over f.d0 w0 e1 w1, Nat.le_trans e2 (two_le (by omega))⟩
    · rw [ec] at hq
      obtain ⟨j, hj, rfl⟩ := List.mem_map.mp hq
      obtain ⟨e, e1, e2⟩ := val_over f.co.good f.d0 f.tS j
      exact ⟨e, div_over f.d0 w0 e1 w1, Nat.le_trans e2 (two_le (by omega))⟩
end KP
set_option linter.all false
set_option maxRecDepth 100000
set_option maxHeartbeats 4000000
/-! a game has one value -/
namespace KP
open PySem PySem.Spec PyProof.Rows L2 KW K68
/-- what the one can hold is no more than what the other must give -/
theorem weak {m n : Nat} {M : Nat → Nat → Rat} {a b : Rat} {p q : Nat → Rat} (ps : ∀ i, i < m → 0 ≤ p i) (qs : ∀ j, j < n → 0 ≤ q j) (sp : sm m p = 1) (sq : sm n q = 1) (lo : ∀ j, j < n → a ≤ sm m (fun i => p i * M i j)) (hi : ∀ i, i < m → sm n (fun j => q j * M i j) ≤ b) : a ≤ b := by
  have h1 : sm n (fun j => q j * a) ≤ sm n (fun j => q j * sm m (fun i => p i * M i j)) := sm_le fun j hj => Rat.mul_le_mul_of_nonneg_left (lo j hj) (qs j hj)
  have h2 : sm m (fun i => p i * sm n (fun j => q j * M i j)) ≤ sm m (fun i => p i * b) := sm_le fun i hi' => Rat.mul_le_mul_of_nonneg_left (hi i hi') (ps i hi')
  have e1 : sm n (fun j => q j * a) = a := by
    rw [sm_congr (g := fun j => a * q j) fun j _ => by grind, sm_mul, sq]
    grind
  have e2 : sm m (fun i => p i * b) = b := by
    rw [sm_congr (g := fun i => b * p i) fun i _ => by grind, sm_mul, sp]
    grind
  have e3 : sm n (fun j => q j * sm m (fun i => p i * M i j)) = sm m (fun i => p i * sm n (fun j => q j * M i j)) := by
    rw [sm_congr (g := fun j => sm m fun i => q j * (p i * M i j)) fun j _ => (sm_mul _).symm, sm_swap]
    refine sm_congr fun i _ => ?_
    rw [← sm_mul]
    exact sm_congr fun j _ => by grind
  rw [e1] at h1
  rw [e2] at h2
  rw [e3] at h1
  exact Rat.le_trans h1 h2
theorem value_one {m n : Nat} {M : Nat → Nat → Rat} {v v' : Rat} {p q p' q' : Nat → Rat} (s : K68.Sol m n M v p q) (s' : K68.Sol m n M v' p' q') : v = v' :=
  Rat.le_antisymm (weak s.ps s'.qs s.sp s'.sq s.least s'.most) (weak s'.ps s.qs s'.sp s.sq s'.least s.most)
end KP
set_option linter.all false
set_option maxRecDepth 100000
set_option maxHeartbeats 4000000
/-! one row, one column -/
namespace KP
open PySem PySem.Spec PyProof.Rows L2 KW K68
/-- a mean is no less than the least -/
theorem mean_ge {n : Nat} {q f : Nat → Rat} {v : Rat} (qs : ∀ j, j < n → 0 ≤ q j) (sq : sm n q = 1) (h : sm n (fun j => q j * f j) ≤ v) : ∃ j, j < n ∧ f j ≤ v := Classical.byContradiction fun no => by
  have gt : ∀ j, j < n → 0 < f j - v := fun j hj => by
    have : ¬ f j ≤ v := fun z => no ⟨j, hj, z⟩
    have := Rat.not_le.mp this
    grind
  have e : sm n (fun j => q j * (f j - v)) = sm n (fun j => q j * f j) - v := by
    rw [sm_congr (g := fun j => q j * f j - v * q j) fun j _ => by grind, sm_sub, sm_mul, sq]
    grind
  have nn : ∀ j, j < n → 0 ≤ q j * (f j - v) := fun j hj => Rat.mul_nonneg (qs j hj) (Rat.le_of_lt (gt j hj))
  have z : ∀ j, j < n → q j = 0 := fun j hj => by
    have h1 := sm_pos_le nn hj
    rw [e] at h1
    have h2 : q j * (f j - v) ≤ 0 := by grind
    refine Classical.byContradiction fun hq => ?_
    have hq' : 0 < q j := by
      have := qs j hj
      grind
    have := Rat.mul_pos hq' (gt j hj)
    grind
  rw [sm_zero z] at sq
  exact absurd sq (by decide)
theorem mean_le {n : Nat} {q f : Nat → Rat} {v : Rat} (qs : ∀ j, j < n → 0 ≤ q j) (sq : sm n q = 1) (h : v ≤ sm n (fun j => q j * f j)) : ∃ j, j < n ∧ v ≤ f j := by
  have e : sm n (fun j => q j * (- f j)) = - sm n (fun j => q j * f j) := by
    rw [sm_congr (g := fun j => (-1) * (q j * f j)) fun j _ => by grind, sm_mul]
    grind
  obtain ⟨j, hj, h1⟩ := mean_ge (f := fun j => - f j) (v := - v) qs sq (by rw [e]; grind)
  exact ⟨j, hj, by grind⟩
theorem one_row {n : Nat} {M : Nat → Nat → Rat} {v : Rat} {p q : Nat → Rat} (s : K68.Sol 1 n M v p q) : (∀ j, j < n → v ≤ M 0 j) ∧ ∃ j, j < n ∧ M 0 j ≤ v := by
  have hp : p 0 = 1 := by
    have := s.sp
    have e : sm 1 p = p 0 := by show (0 : Rat) + p 0 = p 0; grind
    rw [← e]; exact this
  refine ⟨fun j hj => ?_, mean_ge s.qs s.sq (s.most 0 (by decide))⟩
  have h1 := s.least j hj
  have e : sm 1 (fun i => p i * M i j) = p 0 * M 0 j := by show (0 : Rat) + p 0 * M 0 j = _; grind
  rw [e, hp] at h1
  grind
theorem one_col {m : Nat} {M : Nat → Nat → Rat} {v : Rat} {p q : Nat → Rat} (s : K68.Sol m 1 M v p q) : (∀ i, i < m → M i 0 ≤ v) ∧ ∃ i, i < m ∧ v ≤ M i 0 := by
  have hq : q 0 = 1 := by
    have := s.sq
    have e : sm 1 q = q 0 := by show (0 : Rat) + q 0 = q 0; grind
    rw [← e]; exact this
  refine ⟨fun i hi => ?_, mean_le s.ps s.sp (s.least 0 (by decide))⟩
  have h1 := s.most i hi
  have e : sm 1 (fun j => q j * M i j) = q 0 * M i 0 := by show (0 : Rat) + q 0 * M i 0 = _; grind
  rw [e, hq] at h1
  grind
end KP
set_option linter.all false
set_option maxRecDepth 100000
set_option maxHeartbeats 4000000
/-! beside, below, doubled, a line of the entries -/
namespace KP
open PySem PySem.Spec PyProof.Rows L2 KW K68
/-- more columns: no more value -/
theorem beside_le {m n k : Nat} {M B : Nat → Nat → Rat} {v w : Rat} {p q p' q' : Nat → Rat} (s : K68.Sol m n M v p q) (s' : K68.Sol m (n + k) B w p' q') (e : ∀ i j, i < m → j < n → B i j = M i j) : w ≤ v :=
  weak (n := n) (M := M) s'.ps s.qs s'.sp s.sq (fun j hj => by
    have := s'.least j (by omega)
    rwa [sm_congr fun i hi => by rw [e i j hi hj]] at this) s.most
theorem beside_le2 {m n k : Nat} {M B : Nat → Nat → Rat} {v w : Rat} {p q p' q' : Nat → Rat} (s : K68.Sol m k M v p q) (s' : K68.Sol m (n + k) B w p' q') (e : ∀ i j, i < m → j < k → B i (n + j) = M i j) : w ≤ v :=
  weak (n := k) (M := M) s'.ps s.qs s'.sp s.sq (fun j hj => by
    have := s'.least (n + j) (by omega)
    rwa [sm_congr fun i hi => by rw [e i j hi hj]] at this) s.most
/-- more rows: no less value -/
theorem below_ge {m n k : Nat} {M B : Nat → Nat → Rat} {v w : Rat} {p q p' q' : Nat → Rat} (s : K68.Sol m n M v p q) (s' : K68.Sol (m + k) n B w p' q') (e : ∀ i j, i < m → j < n → B i j = M i j) : v ≤ w :=
  weak (m := m) (M := M) s.ps s'.qs s.sp s'.sq s.least fun i hi => by
    have := s'.most i (by omega)
    rwa [sm_congr fun j hj => by rw [e i j hi hj]] at this
theorem below_ge2 {m n k : Nat} {M B : Nat → Nat → Rat} {v w : Rat} {p q p' q' : Nat → Rat} (s : K68.Sol k n M v p q) (s' : K68.Sol (m + k) n B w p' q') (e : ∀ i j, i < k → j < n → B (m + i) j = M i j) : v ≤ w :=
  weak (m := k) (M := M) s.ps s'.qs s.sp s'.sq s.least fun i hi => by
    have := s'.most (m + i) (by omega)
    rwa [sm_congr fun j hj => by rw [e i j hi hj]] at this
/-- columns that stand there already: the same value -/
theorem again_same {m n n' : Nat} {M B : Nat → Nat → Rat} {v w : Rat} {p q p' q' : Nat → Rat} (h0 : n ≤ n') (s : K68.Sol m n M v p q) (s' : K68.Sol m n' B w p' q') (e : ∀ i j, i < m → j < n → B i j = M i j) (e2 : ∀ j, j < n' → ∃ k, k < n ∧ ∀ i, i < m → B i j = M i k) : w = v := by
  refine Rat.le_antisymm ?_ ?_
  · exact weak (n := n) (M := M) s'.ps s.qs s'.sp s.sq (fun j hj => by
      have := s'.least j (by omega)
      rwa [sm_congr fun i hi => by rw [e i j hi hj]] at this) s.most
  · refine weak (n := n') (M := B) s.ps s'.qs s.sp s'.sq (fun j hj => ?_) s'.most
    obtain ⟨k, hk, ek⟩ := e2 j hj
    have := s.least k hk
    rwa [← sm_congr (f := fun i => p i * B i j) fun i hi => by rw [ek i hi]] at this
/-- more + entry/3 everywhere: more + value/3, the shares as they were -/
theorem line_sol {m n : Nat} {M : Nat → Nat → Rat} {v a c : Rat} {p q : Nat → Rat} (s : K68.Sol m n M v p q) (hc : 0 ≤ c) : K68.Sol m n (fun i j => a + M i j * c) (a + v * c) p q where
  ps := s.ps
  qs := s.qs
  sp := s.sp
  sq := s.sq
  least := fun j hj => by
    have e : sm m (fun i => p i * (a + M i j * c)) = a + sm m (fun i => p i * M i j) * c := by
      rw [sm_congr (g := fun i => a * p i + c * (p i * M i j)) fun i _ => by grind, sm_add, sm_mul, sm_mul, s.sp]
      grind
    have h1 := Rat.mul_le_mul_of_nonneg_right (s.least j hj) hc
    rw [e]
    grind
  most := fun i hi => by
    have e : sm n (fun j => q j * (a + M i j * c)) = a + sm n (fun j => q j * M i j) * c := by
      rw [sm_congr (g := fun j => a * q j + c * (q j * M i j)) fun j _ => by grind, sm_add, sm_mul, sm_mul, s.sq]
      grind
    have h1 := Rat.mul_le_mul_of_nonneg_right (s.most i hi) hc
    rw [e]
    grind
end KP
set_option linter.all false
set_option maxRecDepth 100000
set_option maxHeartbeats 1000000
/-! two games at the corners -/
namespace KP
open PySem PySem.Spec PyProof.Rows L2 KW K68
def join (k : Nat) (t u : Rat) (f g : Nat → Rat) : Nat → Rat := fun i => if i < k then t * f i else u * g (i - k)
def cornE (m n : Nat) (A B : Nat → Nat → Rat) (c : Rat) : Nat → Nat → Rat := fun i j => if i < m then (if j < n then A i j else c) else (if j < n then c else B (i - m) (j - n))
theorem sm_join {k l : Nat} {t u : Rat} {f g h h1 h2 : Nat → Rat} (e1 : ∀ i, i < k → h i = h1 i) (e2 : ∀ i, i < l → h (k + i) = h2 i) : sm (k + l) (fun i => join k t u f g i * h i) = t * sm k (fun i => f i * h1 i) + u * sm l (fun i => g i * h2 i) := by
  rw [sm_split, ← sm_mul, ← sm_mul]
  congr 1
  · exact sm_congr fun i hi => by
      show (if i < k then t * f i else u * g (i - k)) * h i = _
      rw [if_pos hi, e1 i hi]
      grind
  · exact sm_congr fun i hi => by
      show (if k + i < k then t * f (k + i) else u * g (k + i - k)) * h (k + i) = _
      rw [if_neg (by omega), e2 i hi, Nat.add_sub_cancel_left]
      grind
theorem sm_joinOne {k l : Nat} {t u : Rat} {f g : Nat → Rat} (hf : sm k f = 1) (hg : sm l g = 1) (h : t + u = 1) : sm (k + l) (join k t u f g) = 1 := by
  have e := sm_join (k := k) (l := l) (t := t) (u := u) (f := f) (g := g) (h := fun _ => 1) (h1 := fun _ => 1) (h2 := fun _ => 1) (fun _ _ => rfl) fun _ _ => rfl
  simp only [Rat.mul_one] at e
  have e' : sm (k + l) (join k t u f g) = t * sm k f + u * sm l g := e
  rw [e', hf, hg]
  grind
theorem sm_const {k : Nat} {f : Nat → Rat} {c : Rat} (hf : sm k f = 1) : sm k (fun i => f i * c) = c := by
  rw [sm_mulr, hf]
  grind
theorem corner_sol {m n m2 n2 : Nat} {A B : Nat → Nat → Rat} {a b c t u v : Rat} {p q p2 q2 : Nat → Rat} (s : K68.Sol m n A a p q) (s2 : K68.Sol m2 n2 B b p2 q2) (t0 : 0 ≤ t) (u0 : 0 ≤ u) (tu : t + u = 1) (e1 : v = t * a + u * c) (e2 : v = t * c + u * b) : K68.Sol (m + m2) (n + n2) (cornE m n A B c) v (join m t u p p2) (join n t u q q2) where
  ps := fun i hi => by
    unfold join
    split
    · exact Rat.mul_nonneg t0 (s.ps i (by assumption))
    · exact Rat.mul_nonneg u0 (s2.ps (i - m) (by omega))
  qs := fun i hi => by
    unfold join
    split
    · exact Rat.mul_nonneg t0 (s.qs i (by assumption))
    · exact Rat.mul_nonneg u0 (s2.qs (i - n) (by omega))
  sp := sm_joinOne s.sp s2.sp tu
  sq := sm_joinOne s.sq s2.sq tu
  least := fun j hj => by
    by_cases z : j < n
    · rw [sm_join (h1 := fun i => A i j) (h2 := fun _ => c) (fun i hi => by unfold cornE; rw [if_pos hi, if_pos z]) (fun i hi => by unfold cornE; rw [if_neg (by omega), if_pos z]), sm_const s2.sp, e1]
      have := Rat.mul_le_mul_of_nonneg_left (s.least j z) t0
      grind
    · rw [sm_join (h1 := fun i => c) (h2 := fun i => B i (j - n)) (fun i hi => by unfold cornE; rw [if_pos hi, if_neg z]) (fun i hi => by unfold cornE; rw [if_neg (by omega), if_neg z, Nat.add_sub_cancel_left]), sm_const s.sp, e2]
      have := Rat.mul_le_mul_of_nonneg_left (s2.least (j - n) (by omega)) u0
      grind
  most := fun i hi => by
    by_cases z : i < m
    · rw [sm_join (h1 := fun j => A i j) (h2 := fun _ => c) (fun j hj => by unfold cornE; rw [if_pos z, if_pos hj]) (fun j hj => by unfold cornE; rw [if_pos z, if_neg (by omega)]), sm_const s2.sq, e1]
      have := Rat.mul_le_mul_of_nonneg_left (s.most i z) t0
      grind
    · rw [sm_join (h1 := fun j => c) (h2 := fun j => B (i - m) j) (fun j hj => by unfold cornE; rw [if_neg z, if_pos hj]) (fun j hj => by unfold cornE; rw [if_neg z, if_neg (by omega), Nat.add_sub_cancel_left]), sm_const s.sq, e2]
      have := Rat.mul_le_mul_of_nonneg_left (s2.most (i - m) (by omega)) u0
      grind
end KP
set_option linter.all false
set_option maxRecDepth 100000
set_option maxHeartbeats 1000000
/-! a number between the two values -/
namespace KP
open PySem PySem.Spec PyProof.Rows L2 KW K68
theorem corner_mid {m n m2 n2 : Nat} {A B : Nat → Nat → Rat} {a b c t u x y : Rat} {p q p2 q2 : Nat → Rat} (s : K68.Sol m n A a p q) (s2 : K68.Sol m2 n2 B b p2 q2) (t0 : 0 ≤ t) (u0 : 0 ≤ u) (tu : t + u = 1) (x0 : 0 ≤ x) (y0 : 0 ≤ y) (xy : x + y = 1) (h1 : c ≤ t * a + u * c) (h2 : c ≤ t * c + u * b) (h3 : x * a + y * c ≤ c) (h4 : x * c + y * b ≤ c) : K68.Sol (m + m2) (n + n2) (cornE m n A B c) c (join m t u p p2) (join n x y q q2) where
  ps := fun i hi => by
    unfold join
    split
    · exact Rat.mul_nonneg t0 (s.ps i (by assumption))
    · exact Rat.mul_nonneg u0 (s2.ps (i - m) (by omega))
  qs := fun i hi => by
    unfold join
    split
    · exact Rat.mul_nonneg x0 (s.qs i (by assumption))
    · exact Rat.mul_nonneg y0 (s2.qs (i - n) (by omega))
  sp := sm_joinOne s.sp s2.sp tu
  sq := sm_joinOne s.sq s2.sq xy
  least := fun j hj => by
    by_cases z : j < n
    · rw [sm_join (h1 := fun i => A i j) (h2 := fun _ => c) (fun i hi => by unfold cornE; rw [if_pos hi, if_pos z]) (fun i hi => by unfold cornE; rw [if_neg (by omega), if_pos z]), sm_const s2.sp]
      have := Rat.mul_le_mul_of_nonneg_left (s.least j z) t0
      grind
    · rw [sm_join (h1 := fun i => c) (h2 := fun i => B i (j - n)) (fun i hi => by unfold cornE; rw [if_pos hi, if_neg z]) (fun i hi => by unfold cornE; rw [if_neg (by omega), if_neg z, Nat.add_sub_cancel_left]), sm_const s.sp]
      have := Rat.mul_le_mul_of_nonneg_left (s2.least (j - n) (by omega)) u0
      grind
  most := fun i hi => by
    by_cases z : i < m
    · rw [sm_join (h1 := fun j => A i j) (h2 := fun _ => c) (fun j hj => by unfold cornE; rw [if_pos z, if_pos hj]) (fun j hj => by unfold cornE; rw [if_pos z, if_neg (by omega)]), sm_const s2.sq]
      have := Rat.mul_le_mul_of_nonneg_left (s.most i z) x0
      grind
    · rw [sm_join (h1 := fun j => c) (h2 := fun j => B (i - m) j) (fun j hj => by unfold cornE; rw [if_neg z, if_pos hj]) (fun j hj => by unfold cornE; rw [if_neg z, if_neg (by omega), Nat.add_sub_cancel_left]), sm_const s.sq]
      have := Rat.mul_le_mul_of_nonneg_left (s2.most (i - m) (by omega)) y0
      grind
end KP
set_option linter.all false
set_option maxRecDepth 100000
set_option maxHeartbeats 1000000
/-! the corners' value is what is due -/
namespace KP
open PySem PySem.Spec PyProof.Rows L2 KW K68
theorem part_eq {g h : Rat} (hg : 0 < g) (hh : 0 < h) : part0 g h + part1 g h = 1 ∧ 0 ≤ part0 g h ∧ 0 ≤ part1 g h ∧ part0 g h * g = 1 / (1 / g + 1 / h) ∧ part1 g h * h = 1 / (1 / g + 1 / h) := by
  have g0 : g ≠ 0 := by grind
  have h0 : h ≠ 0 := by grind
  have ig : 0 < 1 / g := by rw [Rat.div_def, Rat.one_mul]; exact Rat.inv_pos.mpr hg
  have ih : 0 < 1 / h := by rw [Rat.div_def, Rat.one_mul]; exact Rat.inv_pos.mpr hh
  have s0 : 0 < 1 / g + 1 / h := by grind
  have is : 0 < 1 / (1 / g + 1 / h) := by rw [Rat.div_def, Rat.one_mul]; exact Rat.inv_pos.mpr s0
  unfold part0 part1
  refine ⟨?_, Rat.mul_nonneg (Rat.le_of_lt ig) (Rat.le_of_lt is), Rat.mul_nonneg (Rat.le_of_lt ih) (Rat.le_of_lt is), ?_, ?_⟩
  · grind
  · grind
  · grind
/-- due, and by which shares -/
theorem due_sol {m n m2 n2 : Nat} {A B : Nat → Nat → Rat} {a b c : Rat} {p q p2 q2 : Nat → Rat} (s : K68.Sol m n A a p q) (s2 : K68.Sol m2 n2 B b p2 q2) :
    (∃ p' q', K68.Sol (m + m2) (n + n2) (cornE m n A B c) (dueQ a b c) p' q') ∧ (c < a → c < b → K68.Sol (m + m2) (n + n2) (cornE m n A B c) (dueQ a b c) (join m (part0 (a - c) (b - c)) (part1 (a - c) (b - c)) p p2) (join n (part0 (a - c) (b - c)) (part1 (a - c) (b - c)) q q2)) := by
  have up : c < a → c < b → K68.Sol (m + m2) (n + n2) (cornE m n A B c) (dueQ a b c) (join m (part0 (a - c) (b - c)) (part1 (a - c) (b - c)) p p2) (join n (part0 (a - c) (b - c)) (part1 (a - c) (b - c)) q q2) := fun h1 h2 => by
    obtain ⟨e1, e2, e3, e4, e5⟩ := part_eq (g := a - c) (h := b - c) (by grind) (by grind)
    have e : dueQ a b c = upQ a b c := by
      unfold dueQ
      rw [if_pos ⟨by grind, by grind⟩, if_neg (by grind)]
    rw [e]
    unfold upQ
    exact corner_sol s s2 e2 e3 e1 (by grind) (by grind)
  refine ⟨?_, up⟩
  by_cases h1 : c < a ∧ c < b
  · exact ⟨_, _, up h1.1 h1.2⟩
  · by_cases h2 : a < c ∧ b < c
    · obtain ⟨e1, e2, e3, e4, e5⟩ := part_eq (g := c - a) (h := c - b) (by grind) (by grind)
      have e : dueQ a b c = dnQ a b c := by
        unfold dueQ
        rw [if_neg (by grind), if_pos ⟨by grind, by grind⟩, if_neg (by grind)]
      rw [e]
      unfold dnQ
      exact ⟨_, _, corner_sol s s2 e2 e3 e1 (by grind) (by grind)⟩
    · have e : dueQ a b c = c := by
        unfold dueQ
        split
        · rw [if_pos (by grind)]
        · split
          · rw [if_pos (by grind)]
          · rfl
      rw [e]
      by_cases h3 : c ≤ a ∧ b ≤ c
      · exact ⟨_, _, corner_mid (t := 1) (u := 0) (x := 0) (y := 1) s s2 (by grind) (by grind) (by grind) (by grind) (by grind) (by grind) (by grind) (by grind) (by grind) (by grind)⟩
      · exact ⟨_, _, corner_mid (t := 0) (u := 1) (x := 1) (y := 0) s s2 (by grind) (by grind) (by grind) (by grind) (by grind) (by grind) (by grind) (by grind) (by grind) (by grind)⟩
end KP
set_option linter.all false
set_option maxRecDepth 100000
set_option maxHeartbeats 4000000
/-! matrices over one number; papers -/
namespace KP
open PySem PySem.Spec PyProof.Rows L2 KW K68
/-! ### lists as sums -/
theorem as_map (l : List Rat) : l = (List.range l.length).map fun i => l.getD i 0 := List.ext_getElem (by simp) fun i h1 h2 => by
  simp [List.getD_eq_getElem?_getD, List.getElem?_eq_getElem h1]
theorem sm_list (l : List Rat) : sm l.length (fun i => l.getD i 0) = l.sum := by
  rw [← sum_sm, ← as_map]
theorem zip_sm {xs ys : List Rat} {m : Nat} (hx : xs.length = m) (hy : ys.length = m) : (List.zipWith (· * ·) xs ys).sum = sm m (fun i => xs.getD i 0 * ys.getD i 0) := by
  rw [← sum_sm]
  congr 1
  refine List.ext_getElem (by simp [hx, hy]) fun i h1 h2 => ?_
  have l1 : i < xs.length := by rw [List.length_zipWith] at h1; omega
  have l2 : i < ys.length := by rw [List.length_zipWith] at h1; omega
  simp [List.getD_eq_getElem?_getD, List.getElem?_eq_getElem l1, List.getElem?_eq_getElem l2]
theorem row_at {M : Mx} {i : Nat} (hi : i < M.length) : M.getD i [] = M[i] := by rw [List.getD_eq_getElem?_getD, List.getElem?_eq_getElem hi]; rfl
theorem colM_at {M : Mx} {k i : Nat} (hi : i < M.length) : (colM M k).getD i 0 = ent M i k := by
  unfold colM ent
  rw [row_at hi, List.getD_eq_getElem?_getD, List.getElem?_map, List.getElem?_eq_getElem hi]
  rfl
theorem colM_len {M : Mx} {k : Nat} : (colM M k).length = M.length := by unfold colM; rw [List.length_map]
theorem low_sm {M : Mx} {rows : List Rat} {k : Nat} (h : rows.length = M.length) : (List.zipWith (· * ·) rows (colM M k)).sum = sm M.length (fun i => rows.getD i 0 * ent M i k) := by
  rw [zip_sm h colM_len]
  exact sm_congr fun i hi => by rw [colM_at hi]
theorem high_sm {M : Mx} {cols : List Rat} {n i : Nat} (h : cols.length = n) (hi : i < M.length) (hw : M[i].length = n) : (List.zipWith (· * ·) cols M[i]).sum = sm n (fun j => cols.getD j 0 * ent M i j) := by
  rw [zip_sm h hw]
  exact sm_congr fun j hj => by unfold ent; rw [row_at hi]
theorem getD_mem {l : List Rat} {i : Nat} (h : i < l.length) : l.getD i 0 ∈ l := by
  rw [List.getD_eq_getElem?_getD, List.getElem?_eq_getElem h]
  exact List.getElem_mem h
theorem sum_rev : ∀ l : List Rat, l.sum = l.reverse.sum
  | [] => rfl
  | a :: l => by
    rw [List.sum_cons, List.reverse_cons, List.sum_append, ← sum_rev l, List.sum_cons, List.sum_nil]
    grind
theorem mem_zipm {xs ys : List Rat} {q : Rat} (h : q ∈ List.zipWith (· * ·) xs ys) : ∃ a ∈ xs, ∃ b ∈ ys, q = a * b := by
  obtain ⟨i, hi, rfl⟩ := List.mem_iff_getElem.mp h
  rw [List.length_zipWith] at hi
  have l1 : i < xs.length := by omega
  have l2 : i < ys.length := by omega
  exact ⟨xs[i], List.getElem_mem l1, ys[i], List.getElem_mem l2, by rw [List.getElem_zipWith]⟩
theorem sumOk_of {W : Int} {b : Nat} {l : List Rat} (W0 : W ≠ 0) (hW : W.natAbs ≤ 2 ^ b) (h : ∀ q ∈ l, Ov W b q) (l8 : l.length ≤ 8) (hb : b + 3 < 3990) : SumOk l := by
  refine ⟨fun q hq => ?_, fun k hk => ?_⟩
  · have := (h q hq).bq W0 hW (k := 3990) (by omega)
    exact ⟨this.n, this.d⟩
  · have := (Ov.sum (l := l.take k) (fun q hq => h q (List.mem_of_mem_take hq)) (by rw [List.length_take]; omega)).bq W0 (Nat.le_trans hW (two_le (by omega))) (k := 3990) (by omega)
    exact ⟨this.n, this.d⟩
/-! ### matrices over one number -/
def En1 (D : Int) (c : Nat) (q : Rat) : Prop := 0 ≤ q ∧ q ≤ 100 ∧ Ov D c q
structure Mt2 (M : Mx) (n : Nat) (D : Int) (c : Nat) : Prop where
  m1 : 1 ≤ M.length
  n1 : 1 ≤ n
  sz : M.length * n ≤ 64
  wd : ∀ r ∈ M, r.length = n
  D0 : D ≠ 0
  hD : D.natAbs ≤ 2 ^ c
  en : ∀ r ∈ M, ∀ q ∈ r, En1 D c q
section
variable {M : Mx} {n c k : Nat} {D : Int} {x : Told}
theorem Mt2.mok (h : Mt2 M n D c) (hc : c < 3990) : Mok M n := ⟨h.m1, h.n1, h.sz, h.wd, fun r hr q hq => by
  obtain ⟨e1, e2, e3⟩ := h.en r hr q hq
  have := e3.bq h.D0 h.hD hc
  exact ⟨e1, e2, this.n, this.d⟩⟩
theorem Mt2.run (h : Mt2 M n D c) : MRun M n (c + 1) where
  m0 := h.m1
  n0 := h.n1
  wd := h.wd
  pos := fun r hr q hq => (h.en r hr q hq).1
  dn := by
    have h2 : 2 ^ (c + 1) = 2 ^ c + 2 ^ c := by rw [Nat.pow_succ]; omega
    have hD := h.hD
    refine ⟨D, h.D0, by omega, fun r hr q hq => ?_⟩
    obtain ⟨e1, e2, e, e3, e4⟩ := h.en r hr q hq
    refine ⟨e + D, ?_, ?_⟩
    · have hd : (D : Rat) ≠ 0 := cast_ne h.D0
      rw [e3, Rat.intCast_add]
      grind
    · have := Int.natAbs_add_le e D
      omega
theorem Best.mono {k2 : Nat} (h : Best M n k x) (l : k ≤ k2) : Best M n k2 x where
  tl := h.tl
  sol := h.sol
  rl := h.rl
  cl := h.cl
  vS := h.vS.mono l
  rS := fun q hq => (h.rS q hq).mono l
  cS := fun q hq => (h.cS q hq).mono l
  ov := by
    obtain ⟨W, h1, h2, h3, h4⟩ := h.ov
    exact ⟨W, h1, Nat.le_trans h2 (two_le l), fun q hq => (h3 q hq).mono l, fun q hq => (h4 q hq).mono l⟩
theorem Mt2.told (h : Mt2 M n D c) {m : Nat} (hm : M.length ≤ m) (hb : ex (c + 1) m + 7 < 3990 := by decide) (hc : c < 3990 := by decide) : ∃ x, Best M n (ex (c + 1) m + 2) x := by
  have h1 := ex_mono (b := c + 1) hm
  obtain ⟨x, hx⟩ := h.run.told (h.mok hc) (by omega)
  exact ⟨x, hx.mono (by omega)⟩
theorem Best.r0 (h : Best M n k x) : ∀ q ∈ x.rows, 0 ≤ q := fun q hq => by
  obtain ⟨i, hi, rfl⟩ := List.mem_iff_getElem.mp hq
  have := h.sol.ps i (by rw [← h.rl]; exact hi)
  rwa [List.getD_eq_getElem?_getD, List.getElem?_eq_getElem hi] at this
theorem Best.c0 (h : Best M n k x) : ∀ q ∈ x.cols, 0 ≤ q := fun q hq => by
  obtain ⟨i, hi, rfl⟩ := List.mem_iff_getElem.mp hq
  have := h.sol.qs i (by rw [← h.cl]; exact hi)
  rwa [List.getD_eq_getElem?_getD, List.getElem?_eq_getElem hi] at this
theorem Best.r1 (h : Best M n k x) : x.rows.sum = 1 := by
  rw [← sm_list, h.rl]
  exact h.sol.sp
theorem Best.c1 (h : Best M n k x) : x.cols.sum = 1 := by
  rw [← sm_list, h.cl]
  exact h.sol.sq
theorem sol_v0 {m : Nat} {A : Nat → Nat → Rat} {v : Rat} {p q : Nat → Rat} (s : K68.Sol m n A v p q) (hm : 0 < m) (hA : ∀ j, j < n → 0 ≤ A 0 j) : 0 ≤ v :=
  Rat.le_trans (sm_nonneg fun j hj => Rat.mul_nonneg (s.qs j hj) (hA j hj)) (s.most 0 hm)
theorem Mt2.ent_mem (h : Mt2 M n D c) {i j : Nat} (hi : i < M.length) (hj : j < n) : ∃ r ∈ M, ent M i j ∈ r := by
  have hw := h.wd _ (List.getElem_mem hi)
  refine ⟨M[i], List.getElem_mem hi, ?_⟩
  unfold ent
  rw [row_at hi]
  exact getD_mem (by omega)
theorem Mt2.v0 (h : Mt2 M n D c) (b : Best M n k x) : 0 ≤ x.v := sol_v0 b.sol h.m1 fun j hj => by
  obtain ⟨r, hr, hq⟩ := h.ent_mem h.m1 hj
  exact (h.en r hr _ hq).1
/-! ### papers -/
structure Pap (M : Mx) (n : Nat) (D : Int) (c k : Nat) (x : Told) : Prop where
  mt : Mt2 M n D c
  m8 : M.length ≤ 8
  n8 : n ≤ 8
  v0 : 0 ≤ x.v
  sv : Bq 3990 x.v
  rl : x.rows.length = M.length
  cl : x.cols.length = n
  r0 : ∀ q ∈ x.rows, 0 ≤ q
  c0 : ∀ q ∈ x.cols, 0 ≤ q
  r1 : x.rows.sum = 1
  c1 : x.cols.sum = 1
  ov : ∃ W : Int, W ≠ 0 ∧ W.natAbs ≤ 2 ^ k ∧ (∀ q ∈ x.rows, Ov W k q) ∧ ∀ q ∈ x.cols, Ov W k q
theorem Pap.of (h : Mt2 M n D c) (b : Best M n k x) (m8 : M.length ≤ 8) (n8 : n ≤ 8) (hk : k ≤ 3990) : Pap M n D c k x := ⟨h, m8, n8, h.v0 b, b.vS.mono hk, b.rl, b.cl, b.r0, b.c0, b.r1, b.c1, b.ov⟩
theorem Pap.low (h : Pap M n D c k x) : ∃ V : Int, V ≠ 0 ∧ V.natAbs ≤ 2 ^ (k + c) ∧ (∀ j, j < n → ∀ q ∈ List.zipWith (· * ·) x.rows (colM M j), Ov V (k + c) q) ∧ ∀ r ∈ M, ∀ q ∈ List.zipWith (· * ·) x.cols r, Ov V (k + c) q := by
  obtain ⟨W, w0, w1, w2, w3⟩ := h.ov
  refine ⟨W * D, Int.mul_ne_zero w0 h.mt.D0, Ov.of_bits w1 h.mt.hD, fun j hj q hq => ?_, fun r hr q hq => ?_⟩
  · obtain ⟨a, ha, b, hb, rfl⟩ := mem_zipm hq
    obtain ⟨i, hi, rfl⟩ := List.mem_iff_getElem.mp hb
    have hi' : i < M.length := by rw [colM_len] at hi; exact hi
    obtain ⟨r, hr, hm⟩ := h.mt.ent_mem hi' hj
    have e : (colM M j)[i] = ent M i j := by
      rw [← colM_at hi', List.getD_eq_getElem?_getD, List.getElem?_eq_getElem hi]
      rfl
    rw [e]
    exact (w2 a ha).mul (h.mt.en r hr _ hm).2.2
  · obtain ⟨a, ha, b, hb, rfl⟩ := mem_zipm hq
    exact (w3 a ha).mul (h.mt.en r hr b hb).2.2
theorem Pap.ok (h : Pap M n D c k x) (hk : k + c + 3 < 3990) : PapOk M n x := by
  obtain ⟨V, v0, v1, v2, v3⟩ := h.low
  obtain ⟨W, w0, w1, w2, w3⟩ := h.ov
  have rl := h.rl
  have cl := h.cl
  have m8 := h.m8
  have n8 := h.n8
  refine ⟨h.mt.mok (by omega), h.m8, h.v0, ⟨h.sv.n, h.sv.d⟩, h.rl, h.cl, sumOk_of w0 w1 w2 (by omega) (by omega), sumOk_of w0 w1 w3 (by omega) (by omega), h.r0, h.c0, h.r1, h.c1, fun j hj => sumOk_of v0 v1 (v2 j hj) ?_ (by omega), fun r hr => sumOk_of v0 v1 (v3 r hr) ?_ (by omega)⟩
  · rw [List.length_zipWith]; omega
  · rw [List.length_zipWith]; omega
/-- turned about -/
theorem Pap.rev (h : Pap M n D c k x) : Pap M n D c k ⟨x.v, x.rows.reverse, x.cols⟩ where
  mt := h.mt
  m8 := h.m8
  n8 := h.n8
  v0 := h.v0
  sv := h.sv
  rl := by rw [List.length_reverse]; exact h.rl
  cl := h.cl
  r0 := fun q hq => h.r0 q (List.mem_reverse.mp hq)
  c0 := h.c0
  r1 := by
    rw [← h.r1]
    show x.rows.reverse.sum = x.rows.sum
    rw [← sum_rev x.rows]
  c1 := h.c1
  ov := by
    obtain ⟨W, w0, w1, w2, w3⟩ := h.ov
    exact ⟨W, w0, w1, fun q hq => w2 q (List.mem_reverse.mp hq), w3⟩
theorem Pap.pal (h : Pap M n D c k x) (hk : k + c + 4 < 990) (hv : k ≤ 990) : PalOk M n x := by
  obtain ⟨V, v0, v1, v2, v3⟩ := h.rev.low
  obtain ⟨W, w0, w1, w2, w3⟩ := h.ov
  have rl := h.rl
  have m8 := h.m8
  have pn : ∀ j, j < n → ∀ q ∈ prodL M x.rows.reverse j, 0 ≤ q := fun j hj q hq => by
    obtain ⟨a, ha, b, hb, rfl⟩ := mem_zipm hq
    obtain ⟨i, hi, rfl⟩ := List.mem_iff_getElem.mp hb
    have hi' : i < M.length := by rw [colM_len] at hi; exact hi
    obtain ⟨r, hr, hm⟩ := h.mt.ent_mem hi' hj
    have e : (colM M j)[i] = ent M i j := by
      rw [← colM_at hi', List.getD_eq_getElem?_getD, List.getElem?_eq_getElem hi]
      rfl
    rw [e]
    exact Rat.mul_nonneg (h.r0 a (List.mem_reverse.mp ha)) (h.mt.en r hr _ hm).1
  have sumnn : ∀ l : List Rat, (∀ q ∈ l, 0 ≤ q) → 0 ≤ l.sum := fun l hl => by
    induction l with
    | nil => exact Rat.le_refl
    | cons a l ih =>
      have h1 := hl a (List.mem_cons_self ..)
      have h2 := ih fun q hq => hl q (List.mem_cons_of_mem _ hq)
      rw [List.sum_cons]
      grind
  refine ⟨h.mt.m1, by omega, by have := h.n8; omega, h.mt.wd, fun q hq => ⟨h.r0 q hq, (w2 q hq).bq w0 w1 (by omega)⟩, fun r hr q hq => ⟨(h.mt.en r hr q hq).1, (h.mt.en r hr q hq).2.2.bq h.mt.D0 h.mt.hD (by omega)⟩, h.sv.mono (by decide), fun j i hj => ⟨?_, ?_⟩, fun j hj q hq => ⟨pn j hj q hq, (v2 j hj q hq).bq v0 v1 (by omega)⟩⟩
  · exact sumnn _ fun q hq => pn j hj q (List.mem_of_mem_take hq)
  · refine (Ov.sum (l := (prodL M x.rows.reverse j).take i) (fun q hq => v2 j hj q (List.mem_of_mem_take hq)) ?_).bq v0 (Nat.le_trans v1 (two_le (by omega))) (by omega)
    have : (prodL M x.rows.reverse j).length ≤ 8 := by
      unfold prodL
      rw [List.length_zipWith, colM_len]
      omega
    rw [List.length_take]
    omega
/-! ### what is shown -/
theorem lows_ne {rows : List Rat} (hn : 1 ≤ n) : lowsL M n rows ≠ [] := fun z => by
  have := congrArg List.length z
  unfold lowsL at this
  rw [List.length_map, List.length_range] at this
  simp at this
  omega
theorem highs_ne {cols : List Rat} (hm : 1 ≤ M.length) : highsL M cols ≠ [] := fun z => by
  have := congrArg List.length z
  unfold highsL at this
  rw [List.length_map] at this
  simp at this
  rw [this] at hm
  simp at hm
structure Shw (M : Mx) (n : Nat) (x : Told) : Prop where
  rl : x.rows.length = M.length
  cl : x.cols.length = n
  sol : K68.Sol M.length n (ent M) x.v (fun i => x.rows.getD i 0) (fun j => x.cols.getD j 0)
theorem Shw.top (h : Shw M n x) (wd : ∀ r ∈ M, r.length = n) (hm : 1 ≤ M.length) : decide (x.v < mostQ (highsL M x.cols)) = false := by
  refine decide_eq_false fun z => ?_
  obtain ⟨r, hr, e⟩ := List.mem_map.mp (most_mem (highs_ne (cols := x.cols) hm))
  obtain ⟨i, hi, rfl⟩ := List.mem_iff_getElem.mp hr
  have h1 := h.sol.most i hi
  have e' : (List.zipWith (· * ·) x.cols M[i]).sum = mostQ (highsL M x.cols) := e
  rw [← e', high_sm h.cl hi (wd _ hr)] at z
  exact absurd z (Rat.not_lt.mpr h1)
theorem Shw.bot (h : Shw M n x) (hn : 1 ≤ n) : decide (leastQ (lowsL M n x.rows) < x.v) = false := by
  refine decide_eq_false fun z => ?_
  obtain ⟨j, hj, e⟩ := List.mem_map.mp (least_mem (lows_ne (M := M) (rows := x.rows) hn))
  rw [List.mem_range] at hj
  have h1 := h.sol.least j hj
  have e' : (List.zipWith (· * ·) x.rows (colM M j)).sum = leastQ (lowsL M n x.rows) := e
  rw [← e', low_sm h.rl] at z
  exact absurd z (Rat.not_lt.mpr h1)
theorem low_pal {rows : List Rat} {v : Rat} (hn : 1 ≤ n) : (!decide (leastQ (lowsL M n rows.reverse) < v)) = palin M n rows v := by
  have e : lowsL M n rows.reverse = (List.range n).map fun j => (prodL M rows.reverse j).sum := rfl
  unfold palin
  by_cases z : leastQ (lowsL M n rows.reverse) < v
  · rw [decide_eq_true z]
    symm
    show _ = false
    rw [List.all_eq_false]
    obtain ⟨j, hj, e2⟩ := List.mem_map.mp (least_mem (lows_ne (M := M) (rows := rows.reverse) hn))
    refine ⟨j, hj, ?_⟩
    have e3 : (prodL M rows.reverse j).sum = leastQ (lowsL M n rows.reverse) := e2
    rw [e3, decide_eq_true z]
    exact Bool.false_ne_true
  · rw [decide_eq_false z]
    symm
    show _ = true
    rw [List.all_eq_true]
    intro j hj
    have : ¬ (prodL M rows.reverse j).sum < v := fun y => z (by
      have h1 : leastQ (lowsL M n rows.reverse) ≤ (prodL M rows.reverse j).sum := least_le (List.mem_map.mpr ⟨j, hj, rfl⟩)
      grind)
    rw [decide_eq_false this]
    rfl
end
/-! ### drawn ones -/
theorem Lq.en {q : Rat} (h : Lq q) : En1 10 10 q := by
  obtain ⟨t, l, ht, hl, rfl⟩ := h
  have hl0 : (l : Rat) ≠ 0 := by rcases hl with z | z | z <;> subst z <;> decide
  have e : Rat.divInt (t : Int) (l : Int) = (t : Rat) / (l : Rat) := Rat.divInt_eq_div ..
  have t0 : (0 : Rat) ≤ (t : Rat) := by exact_mod_cast Nat.zero_le t
  have t1 : (t : Rat) ≤ 100 := by exact_mod_cast ht
  rw [e]
  refine ⟨?_, ?_, ?_⟩
  · rcases hl with z | z | z <;> subst z <;> grind
  · rcases hl with z | z | z <;> subst z <;> grind
  · rcases hl with z | z | z <;> subst z
    · refine ⟨10 * t, ?_, ?_⟩
      · rw [Rat.intCast_mul]
        have : (((t : Nat) : Int) : Rat) = (t : Rat) := rfl
        rw [this]
        grind
      · rw [Int.natAbs_mul, Int.natAbs_natCast]; show 10 * t ≤ 1024; omega
    · refine ⟨5 * t, ?_, ?_⟩
      · rw [Rat.intCast_mul]
        have : (((t : Nat) : Int) : Rat) = (t : Rat) := rfl
        rw [this]
        grind
      · rw [Int.natAbs_mul, Int.natAbs_natCast]; show 5 * t ≤ 1024; omega
    · refine ⟨2 * t, ?_, ?_⟩
      · rw [Rat.intCast_mul]
        have : (((t : Nat) : Int) : Rat) = (t : Rat) := rfl
        rw [this]
        grind
      · rw [Int.natAbs_mul, Int.natAbs_natCast]; show 2 * t ≤ 1024; omega
theorem Lm.mt {M : Mx} {r n : Nat} (h : Lm M r n) (r1 : 1 ≤ r) (n1 : 1 ≤ n) (sz : r * n ≤ 64) : Mt2 M n 10 10 := ⟨by rw [h.len]; exact r1, n1, by rw [h.len]; exact sz, h.wd, by decide, by decide, fun row hr q hq => (h.en row hr q hq).en⟩
end KP
set_option linter.all false
set_option maxRecDepth 100000
set_option maxHeartbeats 4000000
/-! the law's matrices -/
namespace KP
open PySem PySem.Spec PyProof.Rows L2 KW K68
theorem app_l {α : Type} {d : α} {xs ys : List α} {j : Nat} (h : j < xs.length) : (xs ++ ys).getD j d = xs.getD j d := by
  rw [List.getD_eq_getElem?_getD, List.getD_eq_getElem?_getD, List.getElem?_append_left h]
theorem app_r {α : Type} {d : α} {xs ys : List α} {j : Nat} : (xs ++ ys).getD (xs.length + j) d = ys.getD j d := by
  rw [List.getD_eq_getElem?_getD, List.getD_eq_getElem?_getD, List.getElem?_append_right (by omega), Nat.add_sub_cancel_left]
theorem map_row {M : Mx} {f : List Rat → List Rat} {i : Nat} (hi : i < M.length) : (M.map f).getD i [] = f (M.getD i []) := by
  rw [row_at hi, List.getD_eq_getElem?_getD, List.getElem?_map, List.getElem?_eq_getElem hi]
  rfl
theorem Sol.congrM {m n : Nat} {M M' : Nat → Nat → Rat} {v : Rat} {p q : Nat → Rat} (s : K68.Sol m n M v p q) (h : ∀ i j, i < m → j < n → M' i j = M i j) : K68.Sol m n M' v p q where
  ps := s.ps
  qs := s.qs
  sp := s.sp
  sq := s.sq
  least := fun j hj => by
    rw [sm_congr (g := fun i => p i * M i j) fun i hi => by rw [h i j hi hj]]
    exact s.least j hj
  most := fun i hi => by
    rw [sm_congr (g := fun j => q j * M i j) fun j hj => by rw [h i j hi hj]]
    exact s.most i hi
section
variable {A B : Mx} {n n2 c : Nat} {D : Int} {z : Rat}
theorem Mt2.row0 (h : Mt2 A n D c) : (A.getD 0 []).length = n := by
  rw [row_at h.m1]
  exact h.wd _ (List.getElem_mem h.m1)
theorem Mt2.rowlen (h : Mt2 A n D c) {i : Nat} (hi : i < A.length) : (A.getD i []).length = n := by
  rw [row_at hi]
  exact h.wd _ (List.getElem_mem hi)
/-! corner to corner -/
theorem corn_len : (cornersM A B z).length = A.length + B.length := by
  unfold cornersM
  rw [List.length_append, List.length_map, List.length_map]
theorem rep_at {k j : Nat} (h : j < k) : (List.replicate k z).getD j 0 = z := by
  rw [List.getD_eq_getElem?_getD, List.getElem?_replicate, if_pos h]
  rfl
theorem corn_ent (hA : Mt2 A n D c) (hB : Mt2 B n2 D c) {i j : Nat} (hi : i < A.length + B.length) (hj : j < n + n2) : ent (cornersM A B z) i j = cornE A.length n (ent A) (ent B) z i j := by
  unfold ent cornersM cornE
  rw [hA.row0, hB.row0]
  by_cases h1 : i < A.length
  · rw [if_pos h1, app_l (by rw [List.length_map]; exact h1), map_row h1]
    have l1 := hA.rowlen h1
    by_cases h2 : j < n
    · rw [if_pos h2, app_l (by omega)]
    · rw [if_neg h2]
      obtain ⟨k, rfl⟩ : ∃ k, j = (A.getD i []).length + k := ⟨j - n, by omega⟩
      rw [app_r, rep_at (by omega)]
  · rw [if_neg h1]
    obtain ⟨k, rfl⟩ : ∃ k, i = (A.map fun r => r ++ List.replicate n2 z).length + k := ⟨i - A.length, by rw [List.length_map]; omega⟩
    rw [List.length_map] at h1 hi
    rw [app_r, List.length_map, Nat.add_sub_cancel_left, map_row (by omega)]
    by_cases h2 : j < n
    · rw [if_pos h2, app_l (by rw [List.length_replicate]; exact h2), rep_at h2]
    · rw [if_neg h2]
      obtain ⟨l, rfl⟩ : ∃ l, j = (List.replicate n z).length + l := ⟨j - n, by rw [List.length_replicate]; omega⟩
      rw [app_r, List.length_replicate, Nat.add_sub_cancel_left]
theorem corn_mt (hA : Mt2 A n D c) (hB : Mt2 B n2 D c) (hz : En1 D c z) (sz : (A.length + B.length) * (n + n2) ≤ 64) : Mt2 (cornersM A B z) (n + n2) D c := by
  refine ⟨by rw [corn_len]; have := hA.m1; omega, by have := hA.n1; omega, by rw [corn_len]; exact sz, fun r hr => ?_, hA.D0, hA.hD, fun r hr q hq => ?_⟩
  · unfold cornersM at hr
    rw [hA.row0, hB.row0] at hr
    rcases List.mem_append.mp hr with h | h
    · obtain ⟨r', hr', rfl⟩ := List.mem_map.mp h
      rw [List.length_append, List.length_replicate, hA.wd r' hr']
    · obtain ⟨r', hr', rfl⟩ := List.mem_map.mp h
      rw [List.length_append, List.length_replicate, hB.wd r' hr']
  · unfold cornersM at hr
    rcases List.mem_append.mp hr with h | h
    · obtain ⟨r', hr', rfl⟩ := List.mem_map.mp h
      rcases List.mem_append.mp hq with h2 | h2
      · exact hA.en r' hr' q h2
      · rw [(List.mem_replicate.mp h2).2]; exact hz
    · obtain ⟨r', hr', rfl⟩ := List.mem_map.mp h
      rcases List.mem_append.mp hq with h2 | h2
      · rw [(List.mem_replicate.mp h2).2]; exact hz
      · exact hB.en r' hr' q h2
/-! beside, below -/
def besideM (A B : Mx) : Mx := List.zipWith (· ++ ·) A B
theorem beside_len (h : A.length = B.length) : (besideM A B).length = A.length := by unfold besideM; rw [List.length_zipWith]; omega
theorem beside_at (h : A.length = B.length) {i : Nat} (hi : i < A.length) : (besideM A B).getD i [] = A.getD i [] ++ B.getD i [] := by
  rw [row_at hi, row_at (M := B) (by omega), List.getD_eq_getElem?_getD]
  unfold besideM
  rw [List.getElem?_zipWith, List.getElem?_eq_getElem hi, List.getElem?_eq_getElem (show i < B.length by omega)]
  rfl
theorem beside_mt (hA : Mt2 A n D c) (hB : Mt2 B n2 D c) (h : A.length = B.length) (sz : A.length * (n + n2) ≤ 64) : Mt2 (besideM A B) (n + n2) D c := by
  have key : ∀ r ∈ besideM A B, ∃ a ∈ A, ∃ b ∈ B, r = a ++ b := fun r hr => by
    obtain ⟨i, hi, rfl⟩ := List.mem_iff_getElem.mp hr
    have hi' := hi
    rw [beside_len h] at hi'
    have e := beside_at h hi'
    rw [row_at hi, row_at hi', row_at (M := B) (by omega)] at e
    exact ⟨_, List.getElem_mem hi', _, List.getElem_mem (show i < B.length by omega), e⟩
  refine ⟨by rw [beside_len h]; exact hA.m1, by have := hA.n1; omega, by rw [beside_len h]; exact sz, fun r hr => ?_, hA.D0, hA.hD, fun r hr q hq => ?_⟩
  · obtain ⟨a, ha, b, hb, rfl⟩ := key r hr
    rw [List.length_append, hA.wd a ha, hB.wd b hb]
  · obtain ⟨a, ha, b, hb, rfl⟩ := key r hr
    rcases List.mem_append.mp hq with z | z
    · exact hA.en a ha q z
    · exact hB.en b hb q z
theorem beside_vals (hA : Mt2 A n D c) (hB : Mt2 B n2 D c) (h : A.length = B.length) {k1 k2 k3 : Nat} {x y w : Told} (bx : Best A n k1 x) (by' : Best B n2 k2 y) (bw : Best (besideM A B) (n + n2) k3 w) : w.v ≤ x.v ∧ w.v ≤ y.v := by
  have sx := bx.sol
  have sy := by'.sol
  have sw := bw.sol
  rw [beside_len h] at sw
  rw [← h] at sy
  refine ⟨beside_le sx sw fun i j hi hj => ?_, beside_le2 sy sw fun i j hi hj => ?_⟩
  · unfold ent
    rw [beside_at h hi, app_l (by rw [hA.rowlen hi]; exact hj)]
  · unfold ent
    have e := hA.rowlen hi
    rw [beside_at h hi, ← e, app_r]
theorem below_mt (hA : Mt2 A n D c) (hB : Mt2 B n D c) (sz : (A.length + B.length) * n ≤ 64) : Mt2 (A ++ B) n D c := by
  refine ⟨by rw [List.length_append]; have := hA.m1; omega, hA.n1, by rw [List.length_append]; exact sz, fun r hr => ?_, hA.D0, hA.hD, fun r hr q hq => ?_⟩
  · rcases List.mem_append.mp hr with z | z
    · exact hA.wd r z
    · exact hB.wd r z
  · rcases List.mem_append.mp hr with z | z
    · exact hA.en r z q hq
    · exact hB.en r z q hq
theorem below_vals {k1 k2 k3 : Nat} {x y w : Told} (bx : Best A n k1 x) (by' : Best B n k2 y) (bw : Best (A ++ B) n k3 w) : x.v ≤ w.v ∧ y.v ≤ w.v := by
  have sx := bx.sol
  have sy := by'.sol
  have sw := bw.sol
  rw [List.length_append] at sw
  refine ⟨below_ge sx sw fun i j hi hj => ?_, below_ge2 sy sw fun i j hi hj => ?_⟩
  · unfold ent
    rw [app_l hi]
  · unfold ent
    rw [app_r]
/-! columns again -/
def repM (k : Nat) (A : Mx) : Mx := A.map fun r => (List.replicate k r).flatten
theorem rep_len (k : Nat) (r : List Rat) : (List.replicate k r).flatten.length = k * r.length := by
  induction k with
  | zero => simp
  | succ k ih =>
    rw [List.replicate_succ, List.flatten_cons, List.length_append, ih, Nat.add_mul, Nat.one_mul]
    omega
theorem rep_get {r : List Rat} (hr : 0 < r.length) : ∀ (k j : Nat), j < k * r.length → (List.replicate k r).flatten.getD j 0 = r.getD (j % r.length) 0
  | 0, j, h => by omega
  | k + 1, j, h => by
    rw [List.replicate_succ, List.flatten_cons]
    by_cases z : j < r.length
    · rw [app_l z, Nat.mod_eq_of_lt z]
    · obtain ⟨l, rfl⟩ : ∃ l, j = r.length + l := ⟨j - r.length, by omega⟩
      rw [app_r, rep_get hr k l (by rw [Nat.add_mul, Nat.one_mul] at h; omega), Nat.add_mod_left]
theorem rep_mt {k : Nat} (hA : Mt2 A n D c) (hk : 1 ≤ k) (sz : A.length * (k * n) ≤ 64) : Mt2 (repM k A) (k * n) D c := by
  refine ⟨by unfold repM; rw [List.length_map]; exact hA.m1, Nat.mul_pos hk hA.n1, by unfold repM; rw [List.length_map]; exact sz, fun r hr => ?_, hA.D0, hA.hD, fun r hr q hq => ?_⟩
  · obtain ⟨a, ha, rfl⟩ := List.mem_map.mp hr
    rw [rep_len, hA.wd a ha]
  · obtain ⟨a, ha, rfl⟩ := List.mem_map.mp hr
    obtain ⟨l, hl, hq2⟩ := List.mem_flatten.mp hq
    rw [(List.mem_replicate.mp hl).2] at hq2
    exact hA.en a ha q hq2
theorem rep_ent {k i j : Nat} (hA : Mt2 A n D c) (hi : i < A.length) (hj : j < k * n) : ent (repM k A) i j = ent A i (j % n) := by
  unfold ent repM
  have e := hA.rowlen hi
  rw [map_row hi, rep_get (by rw [e]; exact hA.n1) k j (by rw [e]; exact hj), e]
theorem rep_val {k k1 k2 : Nat} {x w : Told} (hA : Mt2 A n D c) (hk : 1 ≤ k) (bx : Best A n k1 x) (bw : Best (repM k A) (k * n) k2 w) : w.v = x.v := by
  have sx := bx.sol
  have sw := bw.sol
  have e : (repM k A).length = A.length := by unfold repM; rw [List.length_map]
  rw [e] at sw
  have hn : n ≤ k * n := by
    have := Nat.mul_le_mul_right n hk
    omega
  refine again_same hn sx sw (fun i j hi hj => ?_) fun j hj => ⟨j % n, Nat.mod_lt _ hA.n1, fun i hi => rep_ent hA hi hj⟩
  rw [rep_ent hA hi (by omega), Nat.mod_eq_of_lt hj]
/-! four rows -/
def quadM (A : Mx) : Mx := ((List.replicate 4 A).flatten).take 4
theorem quad_mem {r : List Rat} (h : r ∈ quadM A) : r ∈ A := by
  obtain ⟨l, hl, hr⟩ := List.mem_flatten.mp (List.mem_of_mem_take h)
  rwa [(List.mem_replicate.mp hl).2] at hr
theorem quad_len (h : 1 ≤ A.length) : (quadM A).length = 4 := by
  unfold quadM
  have e : ((List.replicate 4 A).flatten).length = 4 * A.length := by
    show (List.flatten [A, A, A, A]).length = _
    simp
    omega
  rw [List.length_take, e]
  omega
theorem quad_mt (hA : Mt2 A n D c) (sz : 4 * n ≤ 64) : Mt2 (quadM A) n D c := ⟨by rw [quad_len hA.m1]; decide, hA.n1, by rw [quad_len hA.m1]; exact sz, fun r hr => hA.wd r (quad_mem hr), hA.D0, hA.hD, fun r hr => hA.en r (quad_mem hr)⟩
/-! along a line -/
def thirdQ : Rat := 1 / 3
def lineM (a : Rat) (A : Mx) : Mx := A.map fun r => r.map fun q => a + q * thirdQ
theorem line_ent {a : Rat} {i j : Nat} (hA : Mt2 A n D c) (hi : i < A.length) (hj : j < n) : ent (lineM a A) i j = a + ent A i j * thirdQ := by
  unfold ent lineM
  have e := hA.rowlen hi
  rw [map_row hi]
  have hl : j < (A.getD i []).length := by omega
  revert hl
  generalize A.getD i [] = r
  intro hl
  rw [List.getD_eq_getElem?_getD, List.getElem?_map, List.getD_eq_getElem?_getD, List.getElem?_eq_getElem hl]
  rfl
theorem line_shw {k : Nat} {a : Rat} {x : Told} (hA : Mt2 A n D c) (bx : Best A n k x) : Shw (lineM a A) n ⟨a + x.v * thirdQ, x.rows, x.cols⟩ := by
  have e : (lineM a A).length = A.length := by unfold lineM; rw [List.length_map]
  refine ⟨by rw [e]; exact bx.rl, bx.cl, ?_⟩
  rw [e]
  exact Sol.congrM (line_sol bx.sol (by decide +kernel)) fun i j hi hj => line_ent hA hi hj
theorem line_mt {a : Rat} (hA : Mt2 A n 10 10) (ha : a = 0 ∨ a = 100 / 3 ∨ a = 200 / 3) : Mt2 (lineM a A) n 30 12 := by
  have e : (lineM a A).length = A.length := by unfold lineM; rw [List.length_map]
  refine ⟨by rw [e]; exact hA.m1, hA.n1, by rw [e]; exact hA.sz, fun r hr => ?_, by decide, by decide, fun r hr q hq => ?_⟩
  · obtain ⟨r', hr', rfl⟩ := List.mem_map.mp hr
    rw [List.length_map]
    exact hA.wd r' hr'
  · obtain ⟨r', hr', rfl⟩ := List.mem_map.mp hr
    obtain ⟨y, hy, rfl⟩ := List.mem_map.mp hq
    obtain ⟨y0, y1, f, f1, f2⟩ := hA.en r' hr' y hy
    have key : ∃ g : Int, a = (g : Rat) / 30 ∧ 0 ≤ g ∧ g ≤ 2000 := by
      rcases ha with z | z | z
      · exact ⟨0, by rw [z]; decide +kernel, by decide, by decide⟩
      · exact ⟨1000, by rw [z]; decide +kernel, by decide, by decide⟩
      · exact ⟨2000, by rw [z]; decide +kernel, by decide, by decide⟩
    have a0 : 0 ≤ a ∧ a ≤ 200 / 3 := by
      rcases ha with z | z | z <;> rw [z] <;> exact ⟨by decide +kernel, by decide +kernel⟩
    obtain ⟨g, g1, g2, g3⟩ := key
    have t : thirdQ = 1 / 3 := rfl
    refine ⟨by rw [t]; grind, by rw [t]; grind, g + f, ?_, ?_⟩
    · rw [t, f1, g1, Rat.intCast_add]
      have e10 : ((10 : Int) : Rat) = 10 := rfl
      have e30 : ((30 : Int) : Rat) = 30 := rfl
      rw [e10, e30]
      grind
    · have := Int.natAbs_add_le g f
      have h2 : f.natAbs ≤ 1024 := f2
      show (g + f).natAbs ≤ 4096
      omega
end
end KP
set_option linter.all false
set_option maxRecDepth 100000
set_option maxHeartbeats 4000000
/-! corners: told, due, joined papers; one row, one column -/
namespace KP
open PySem PySem.Spec PyProof.Rows L2 KW K68
section
variable {M A B : Mx} {n n2 c k k1 k2 k3 : Nat} {D : Int} {z : Rat} {x y w : Told}
theorem Pap.ofShw (h : Mt2 M n D c) (b : Shw M n x) (m8 : M.length ≤ 8) (n8 : n ≤ 8) (sv : Bq 3990 x.v) (ov : ∃ W : Int, W ≠ 0 ∧ W.natAbs ≤ 2 ^ k ∧ (∀ q ∈ x.rows, Ov W k q) ∧ ∀ q ∈ x.cols, Ov W k q) : Pap M n D c k x where
  mt := h
  m8 := m8
  n8 := n8
  v0 := sol_v0 b.sol h.m1 fun j hj => by
    obtain ⟨r, hr, hq⟩ := h.ent_mem h.m1 hj
    exact (h.en r hr _ hq).1
  sv := sv
  rl := b.rl
  cl := b.cl
  r0 := fun q hq => by
    obtain ⟨i, hi, rfl⟩ := List.mem_iff_getElem.mp hq
    have := b.sol.ps i (by rw [← b.rl]; exact hi)
    rwa [List.getD_eq_getElem?_getD, List.getElem?_eq_getElem hi] at this
  c0 := fun q hq => by
    obtain ⟨i, hi, rfl⟩ := List.mem_iff_getElem.mp hq
    have := b.sol.qs i (by rw [← b.cl]; exact hi)
    rwa [List.getD_eq_getElem?_getD, List.getElem?_eq_getElem hi] at this
  r1 := by
    rw [← sm_list, b.rl]
    exact b.sol.sp
  c1 := by
    rw [← sm_list, b.cl]
    exact b.sol.sq
  ov := ov
theorem Best.shw (h : Best M n k x) : Shw M n x := ⟨h.rl, h.cl, h.sol⟩
/-- what the judge says of a right paper -/
theorem Shw.says (h : Shw M n x) (mt : Mt2 M n D c) : (!decide (leastQ (lowsL M n x.rows) < x.v) && !decide (x.v < mostQ (highsL M x.cols))) = true := by
  rw [h.bot mt.n1, h.top mt.wd mt.m1]
  rfl
theorem Shw.says_rev (h : Shw M n x) (mt : Mt2 M n D c) : (!decide (leastQ (lowsL M n x.rows.reverse) < x.v) && !decide (x.v < mostQ (highsL M x.cols))) = palin M n x.rows x.v := by
  rw [h.top mt.wd mt.m1, low_pal mt.n1, Bool.not_false, Bool.and_true]
theorem corn_due (hA : Mt2 A n D c) (hB : Mt2 B n2 D c) (bx : Best A n k1 x) (by' : Best B n2 k2 y) (bw : Best (cornersM A B z) (n + n2) k3 w) : w.v = dueQ x.v y.v z := by
  obtain ⟨⟨p', q', s⟩, -⟩ := due_sol (c := z) bx.sol by'.sol
  have sw := bw.sol
  rw [corn_len] at sw
  exact value_one sw (Sol.congrM s fun i j hi hj => corn_ent hA hB hi hj)
theorem join_at {xs ys : List Rat} {g h : Rat} {i : Nat} (hi : i < xs.length + ys.length) : (joinL xs ys g h).getD i 0 = join xs.length (part0 g h) (part1 g h) (fun i => xs.getD i 0) (fun i => ys.getD i 0) i := by
  unfold joinL join
  by_cases z : i < xs.length
  · rw [if_pos z, app_l (by rw [List.length_map]; exact z), List.getD_eq_getElem?_getD, List.getElem?_map, List.getElem?_eq_getElem z]
    show xs[i] * part0 g h = part0 g h * xs.getD i 0
    rw [List.getD_eq_getElem?_getD, List.getElem?_eq_getElem z]
    show xs[i] * part0 g h = part0 g h * xs[i]
    grind
  · rw [if_neg z]
    obtain ⟨l, rfl⟩ : ∃ l, i = (xs.map fun x => x * part0 g h).length + l := ⟨i - xs.length, by rw [List.length_map]; omega⟩
    rw [List.length_map] at hi
    have hl : l < ys.length := by omega
    rw [app_r, List.length_map, Nat.add_sub_cancel_left, List.getD_eq_getElem?_getD, List.getElem?_map, List.getElem?_eq_getElem hl]
    show ys[l] * part1 g h = part1 g h * ys.getD l 0
    rw [List.getD_eq_getElem?_getD, List.getElem?_eq_getElem hl]
    show ys[l] * part1 g h = part1 g h * ys[l]
    grind
def joinP (x y : Told) (z : Rat) : Told := ⟨dueQ x.v y.v z, joinL x.rows y.rows (x.v - z) (y.v - z), joinL x.cols y.cols (x.v - z) (y.v - z)⟩
theorem join_len {xs ys : List Rat} {g h : Rat} : (joinL xs ys g h).length = xs.length + ys.length := by unfold joinL; rw [List.length_append, List.length_map, List.length_map]
theorem corn_shw (hA : Mt2 A n D c) (hB : Mt2 B n2 D c) (bx : Best A n k1 x) (by' : Best B n2 k2 y) (h1 : z < x.v) (h2 : z < y.v) : Shw (cornersM A B z) (n + n2) (joinP x y z) := by
  obtain ⟨-, s⟩ := due_sol (c := z) bx.sol by'.sol
  have s := s h1 h2
  have e1 := bx.rl
  have e2 := by'.rl
  have e3 := bx.cl
  have e4 := by'.cl
  refine ⟨?_, ?_, ?_⟩
  · rw [corn_len]
    show (joinL _ _ _ _).length = _
    rw [join_len, e1, e2]
  · show (joinL _ _ _ _).length = _
    rw [join_len, e3, e4]
  · rw [corn_len]
    refine Sol.congr (Sol.congrM s fun i j hi hj => corn_ent hA hB hi hj) (fun i hi => ?_) fun j hj => ?_
    · show (joinL _ _ _ _).getD i 0 = _
      rw [join_at (by omega), e1]
    · show (joinL _ _ _ _).getD j 0 = _
      rw [join_at (by omega), e3]
theorem lq_bq (h : En1 10 10 z) : Bq 11 z := h.2.2.bq (by decide) (by decide) (by decide)
theorem corn_pap (hA : Mt2 A n 10 10) (hB : Mt2 B n2 10 10) (hz : En1 10 10 z) (bx : Best A n 97 x) (by' : Best B n2 97 y) (h1 : z < x.v) (h2 : z < y.v) (hC : Mt2 (cornersM A B z) (n + n2) 10 10) (m8 : A.length + B.length ≤ 8) (n8 : n + n2 ≤ 8) (sv : Bq 3990 (dueQ x.v y.v z)) : Pap (cornersM A B z) (n + n2) 10 10 631 (joinP x y z) := by
  have bz := lq_bq hz
  have bg : Bq 109 (x.v - z) := bx.vS.sub bz
  have bh : Bq 109 (y.v - z) := by'.vS.sub bz
  obtain ⟨Z, Z0, Z1, o0, o1⟩ := parts_ov (g := x.v - z) (h := y.v - z) (by grind) (by grind) bg bh
  obtain ⟨W, w0, w1, w2, w3⟩ := bx.ov
  obtain ⟨V, v0, v1, v2, v3⟩ := by'.ov
  have eW : V * Z * W = W * Z * V := by rw [Int.mul_comm V Z, Int.mul_assoc, Int.mul_comm V W, ← Int.mul_assoc, Int.mul_comm Z W]
  refine Pap.ofShw hC (corn_shw hA hB bx by' h1 h2) (by rw [corn_len]; exact m8) n8 sv ⟨W * Z * V, Int.mul_ne_zero (Int.mul_ne_zero w0 Z0) v0, Ov.of_bits (b := 97 + 437) (Ov.of_bits w1 Z1) v1, fun q hq => ?_, fun q hq => ?_⟩
  · rcases List.mem_append.mp hq with h | h
    · obtain ⟨a, ha, rfl⟩ := List.mem_map.mp h
      exact (((w2 a ha).mul o0).lift v0 v1 : Ov (W * Z * V) (97 + 437 + 97) _)
    · obtain ⟨a, ha, rfl⟩ := List.mem_map.mp h
      have := (((v2 a ha).mul o1).lift w0 w1 : Ov (V * Z * W) (97 + 437 + 97) _)
      rwa [eW] at this
  · rcases List.mem_append.mp hq with h | h
    · obtain ⟨a, ha, rfl⟩ := List.mem_map.mp h
      exact (((w3 a ha).mul o0).lift v0 v1 : Ov (W * Z * V) (97 + 437 + 97) _)
    · obtain ⟨a, ha, rfl⟩ := List.mem_map.mp h
      have := (((v3 a ha).mul o1).lift w0 w1 : Ov (V * Z * W) (97 + 437 + 97) _)
      rwa [eW] at this
/-! one row, one column -/
theorem hi_ge : ∀ (l : List Rat) (f : Rat), f ≤ l.foldl hiQ f ∧ ∀ q ∈ l, q ≤ l.foldl hiQ f
  | [], f => ⟨Rat.le_refl, fun q h => by cases h⟩
  | a :: l, f => by
    obtain ⟨h1, h2⟩ := hi_ge l (hiQ f a)
    have h3 : f ≤ hiQ f a ∧ a ≤ hiQ f a := by
      unfold hiQ
      split <;> grind
    refine ⟨Rat.le_trans h3.1 h1, fun q hq => ?_⟩
    rcases List.mem_cons.mp hq with e | e
    · rw [e]
      exact Rat.le_trans h3.2 h1
    · exact h2 q e
theorem row_due (hA : Mt2 A n D c) (bx : Best A n k x) (h1 : A.length = 1) : x.v = (A.getD 0 []).foldl loQ ((A.getD 0 []).getD 0 0) := by
  have s := bx.sol
  rw [h1] at s
  obtain ⟨h2, j, hj, h3⟩ := one_row s
  have el : (A.getD 0 []).length = n := hA.row0
  have n1 := hA.n1
  have all : ∀ q ∈ A.getD 0 [], x.v ≤ q := fun q hq => by
    obtain ⟨i, hi, rfl⟩ := List.mem_iff_getElem.mp hq
    have := h2 i (by omega)
    unfold ent at this
    have e : (A.getD 0 []).getD i 0 = (A.getD 0 [])[i] := by
      rw [List.getD_eq_getElem?_getD (i := i), List.getElem?_eq_getElem hi]
      rfl
    rwa [e] at this
  obtain ⟨l1, l2⟩ := lo_le (A.getD 0 []) ((A.getD 0 []).getD 0 0)
  refine Rat.le_antisymm ?_ ?_
  · rcases fold_mem loQ_or (A.getD 0 []) ((A.getD 0 []).getD 0 0) with e | e
    · rw [e]; exact all _ (getD_mem (by omega))
    · exact all _ e
  · exact Rat.le_trans (l2 _ (getD_mem (by omega))) h3
theorem col_due (hA : Mt2 A 1 D c) (bx : Best A 1 k x) : x.v = (colM A 0).foldl hiQ ((colM A 0).getD 0 0) := by
  obtain ⟨h2, j, hj, h3⟩ := one_col bx.sol
  have el : (colM A 0).length = A.length := colM_len
  have m1 := hA.m1
  have all : ∀ q ∈ colM A 0, q ≤ x.v := fun q hq => by
    obtain ⟨i, hi, rfl⟩ := List.mem_iff_getElem.mp hq
    have := h2 i (by omega)
    rw [← colM_at (by omega)] at this
    rwa [List.getD_eq_getElem?_getD, List.getElem?_eq_getElem hi] at this
  obtain ⟨l1, l2⟩ := hi_ge (colM A 0) ((colM A 0).getD 0 0)
  refine Rat.le_antisymm ?_ ?_
  · refine Rat.le_trans h3 (l2 _ ?_)
    rw [← colM_at hj]
    exact getD_mem (by omega)
  · rcases fold_mem hiQ_or (colM A 0) ((colM A 0).getD 0 0) with e | e
    · rw [e]; exact all _ (getD_mem (by omega))
    · exact all _ e
end
end KP
set_option linter.all false
set_option maxRecDepth 100000
set_option maxHeartbeats 4000000
set_option exponentiation.threshold 4000
/-! defs where no guard runs; _law_are_corners_right -/
namespace KP
open PySem PySem.Spec PyProof.Rows L2 KW K68
structure Gb (P : Program) (w : World) (K : PySem.W.Frag) (mg : Str → Option Value) (base : Heap) (k : Nat) (x : Str) (sp : Sp) : Prop where
  ex : ∃ (f : Addr) (fd : FuncData) (ps : List Str), FnG P w K mg base k f fd ps sp ∧ mg x = some (.ref f) ∧ PySem.W.keepIn K (.ref f) = true ∧ Binds K fd ps []
/-- t takes at most, and gives True -/
def spG (K : PySem.W.Frag) (t : Nat) : Sp := fun vs H Q _ => ∃ (p : Addr) (G : Hp) (m : Nat), vs = [.ref p] ∧ m + t ≤ 1001 ∧ Ex G H ∧ G p = none ∧ Pot p m H ∧ ∀ (H2 G2 : Hp), V1 p H G H2 G2 → Pot p (m + t) H2 → Q (.bl true) H2
theorem log_bt {k : Nat} {i : Int} (h : Bt k i) (hk : k ≤ 1900) : i.natAbs.log2 < 1920 := by
  by_cases z : i.natAbs = 0
  · rw [z]
    decide
  · have := (Nat.log2_lt z).mpr (h.mono hk)
    omega
section
variable {P : Program} {w : World} {K : PySem.W.Frag} {mg : Str → Option Value} {base : Heap}
theorem Gb.of {x : Str} {st : Stmt} {N : List Str} {k t : Nat} (h : Has K mg x st ["pot"]) (S : FnScope N ["pot"] (defScope st))
    (hbody : ∀ (f : Addr) (cdv : Value) (A : Around) (outer : List Env) (s : Shared) (H : Hp), (bX P w K mg base N x st f cdv A outer s H E0).A.guards = some [] → Room k (bX P w K mg base N x st f cdv A outer s H E0).A → ∀ p m, m + t ≤ 1001 → Ks (bX P w K mg base N x st f cdv A outer s H E0) p m (defBody st) (stD N [.v (.ref p)]) { nx := fun _ n => False, rt := fun c n => n ≤ m + t ∧ c = .d (.bool true) }) :
    Gb P w K mg base (k + 1) x (spG K t) := by
  obtain ⟨f, fd, hm, F, hb⟩ := h.ex
  refine ⟨f, fd, _, Fun.okG F (k := k) S (fun vs H Q E h => ?_) (fun cdv A outer s H vs Q hg hr h => ?_), hm, F.kp, hb⟩
  · obtain ⟨p, G, m, rfl, _⟩ := h
    rfl
  · obtain ⟨p, G, m, rfl, hm', eg, gp, po, q⟩ := h
    refine ⟨_, pssW, hbody f cdv A outer s H (guards_deeper hg) hr p m hm' (L2.start N [.ref p]) H G _ eg gp po (start_en (.cons rfl .nil)) ⟨fun σ2 H2 G2 δ2 n v po2 en pn => pn.elim, fun v H2 G2 c n v2 po2 o pn => ?_⟩⟩
    obtain ⟨pn, rfl⟩ := pn
    have o' : Rp K G2 v (.bool true) := o
    cases o'
    exact q H2 G2 v2 (po2.up pn)
theorem y_reprF {X : Cx} {δ : DE} {e : Expr} {p pos : Pos} {q : Rat} {b : Nat} (hgd : X.A.guards = some []) (hu : X.A.units + 64 < cLine) (hm : X.mg "repr" = none) (he : Ey X e δ (.d (frD q))) (hq : Bq b q) (hb : b ≤ 1900) (hg : Gl X "repr" := by rfl) (hs : starEach [e] X.env = (false, eval e X.env) :: starEach [] X.env := by rfl) : Ey X (.Call (.Name "repr" p) [e] [] pos) δ (.d (.str (shownP q.num (q.den : Int)))) :=
  y_b1 (c_reprP hgd hu (log_bt hq.n hb) (log_bt hq.d hb)) hm he (by decide +kernel) hg (by decide) (by decide) hs
abbrev NC : List Str := ["pot", "sides", "one", "other", "first", "second", "matrix", "told", "number", "both", "due", "line", "sign", "gains", "paper", "lap", "row"]
abbrev v0T (x : Told) : atI [frD x.v, .tuple (frs x.rows), .tuple (frs x.cols)] 0 = some (frD x.v) := rfl
abbrev v1T (x : Told) : atI [frD x.v, .tuple (frs x.rows), .tuple (frs x.cols)] 1 = some (.tuple (frs x.rows)) := rfl
abbrev v2T (x : Told) : atI [frD x.v, .tuple (frs x.rows), .tuple (frs x.cols)] 2 = some (.tuple (frs x.cols)) := rfl
theorem told_of {M : Mx} {n k : Nat} {x : Told} (b : Best M n k x) : R_told [.d (matD M)] (toldD x) := ⟨M, n, x, rfl, b.tl, rfl⟩
theorem t_conv {X : Cx} {δ : DE} {e : Expr} {k k' : Bool} (h : Ty X e δ k) (q : k = k') : Ty X e δ k' := q ▸ h
theorem less_pos {a b : Rat} (ha : Bq 1000 a) (hb : Bq 1000 b) : R_lless [.d (.tuple [.int (1 * a.num), .int (a.den : Nat)]), .d (.tuple [.int (1 * b.num), .int (b.den : Nat)])] (.bool (decide (a < b))) := by
  rw [Int.one_mul, Int.one_mul]
  exact less_fr (ha.mono (by decide)) (hb.mono (by decide))
theorem less_neg {a b : Rat} (ha : Bq 1000 a) (hb : Bq 1000 b) : R_lless [.d (.tuple [.int (-1 * a.num), .int (a.den : Nat)]), .d (.tuple [.int (-1 * b.num), .int (b.den : Nat)])] (.bool (decide (b < a))) := by
  refine ⟨(-1 * a.num, a.den), (-1 * b.num, b.den), rfl, ?_, ha.d.mono (by decide), ?_, hb.d.mono (by decide), ?_⟩
  · show Bt 4000 (-1 * a.num)
    rw [Int.neg_mul, Int.one_mul]
    exact ha.n.neg.mono (by decide)
  · show Bt 4000 (-1 * b.num)
    rw [Int.neg_mul, Int.one_mul]
    exact hb.n.neg.mono (by decide)
  · rw [← lt_di b a]
    congr 1
    have e1 : -1 * a.num * (b.den : Int) = -(a.num * (b.den : Int)) := by rw [Int.neg_mul, Int.one_mul, Int.neg_mul]
    have e2 : -1 * b.num * (a.den : Int) = -(b.num * (a.den : Int)) := by rw [Int.neg_mul, Int.one_mul, Int.neg_mul]
    show decide _ = decide (-1 * a.num * (b.den : Int) < -1 * b.num * (a.den : Int))
    rw [e1, e2]
    by_cases h : b.num * (a.den : Int) < a.num * (b.den : Int)
    · rw [decide_eq_true h, decide_eq_true (by omega)]
    · rw [decide_eq_false h, decide_eq_false (by omega)]
abbrev dC (p : Addr) (rs : List PyData) (A B : Mx) (x y : Told) (o6 o7 o8 o10 o11 o12 : Option Cl) : DE := [some (.v (.ref p)), some (.d (.list rs)), some (.d (matD A)), some (.d (matD B)), some (.d (toldD x)), some (.d (toldD y)), o6, o7, o8, none, o10, o11, o12, none, none, none, none]
theorem get0 {l : List Rat} (h : 1 ≤ l.length) : l[0]? = some (l.getD 0 0) := by
  rw [List.getD_eq_getElem?_getD, List.getElem?_eq_getElem (show 0 < l.length by omega)]
  rfl
theorem fold_bq {g : Rat → Rat → Rat} (hg : ∀ a b, g a b = a ∨ g a b = b) {l : List Rat} {x : Rat} {b : Nat} (hx : Bq b x) (hl : ∀ q ∈ l, Bq b q) : Bq b (l.foldl g x) := by
  rcases fold_mem hg l x with e | e
  · rw [e]; exact hx
  · exact hl _ e
theorem ok_corners (B : Bl mg) (h : Has K mg "_law_are_corners_right" s__law_are_corners_right ["pot"]) (ht : Fb P w K mg base 1 "_law_take" (spK K R_take)) (ho : Fb P w K mg base 2 "_law_of" (spK K R_of)) (hlm : Fb P w K mg base 3 "_law_matrix" (spK K R_lmat)) (hs : Cb P w K mg base 1 "_law_short" R_short)
    (hto : Cb P w K mg base 8 "matrix_told" R_told) (hsh : Cb P w K mg base 6 "shows_matrix" R_shows) (hl : Cb P w K mg base 1 "_law_less" R_lless) (hmi : Cb P w K mg base 2 "_law_minus" R_lminus) (hco : Cb P w K mg base 1 "_law_corners" R_lcor) (hdu : Cb P w K mg base 3 "_law_due" R_ldue) (hjo : Cb P w K mg base 3 "_law_joined" R_ljoin) (hpa : Cb P w K mg base 3 "_law_is_palin" R_lpal) :
    Gb P w K mg base 9 "_law_are_corners_right" (spG K 28) := by
  refine Gb.of (k := 8) (t := 28) (N := NC) h c__law_are_corners_right fun f cdv A outer s H hgd hr p m hm => ?_
  refine ks_setLc (i := 1) (j := 15) (t := 1) (m2 := m + 4) (ds := rangeD 0 4) (Re := fun d => ∃ u : Nat, 1 ≤ u ∧ u ≤ 3 ∧ d = .int (u : Nat)) c__law_are_corners_right.nd rfl rfl rfl (i_rangeN (n := 4) rfl rfl B.range y_int (by decide)) b__law_are_corners_right_0 (fun i d hd s H0 C cl fp => ?_) (by decide) (by rw [rangeD_len]) (fun rs lr re => ?_)
  · refine k_op (m1 := m + i * 1) (R1 := fun c => c = .d (.int 1)) (R2 := fun c => ∃ u : Nat, u < 3 ∧ c = .d (.int (u : Nat))) (fun c1 c2 h1 h2 => ?_) (k_y y_int rfl) (k_fb2 (m1 := m + i * 1) (t := 1) (R1 := fun c => c = .d (.int (3 : Nat))) ht hr (by decide) (yv 0) (k_y y_int rfl) (fun c hc => ⟨_, ⟨3, by rw [hc], by decide, by decide, rfl, rfl⟩, fun d hd => ?_⟩) (by omega) ?_)
    · subst h1
      obtain ⟨u, hu, rfl⟩ := h2
      exact ⟨_, ⟨_, rfl, 1 + u, by omega, by omega, by rw [Int.natCast_add]; rfl⟩, o_add⟩
    · obtain ⟨u, hu, rfl⟩ := hd
      exact ⟨u, hu, rfl⟩
    · have := (rangeD_at hd).1
      omega
  rw [rangeD_len] at lr
  obtain ⟨s0, s1, s2, s3, a0, a1, a2, a3, e⟩ : ∃ s0 s1 s2 s3 : Nat, (1 ≤ s0 ∧ s0 ≤ 3) ∧ (1 ≤ s1 ∧ s1 ≤ 3) ∧ (1 ≤ s2 ∧ s2 ≤ 3) ∧ (1 ≤ s3 ∧ s3 ≤ 3) ∧ rs = [.int (s0 : Nat), .int (s1 : Nat), .int (s2 : Nat), .int (s3 : Nat)] := by
    match rs, lr, re with
    | [r0, r1, r2, r3], _, re =>
      obtain ⟨u0, a, b, rfl⟩ := re r0 (by simp)
      obtain ⟨u1, a', b', rfl⟩ := re r1 (by simp)
      obtain ⟨u2, a2, b2, rfl⟩ := re r2 (by simp)
      obtain ⟨u3, a3, b3, rfl⟩ := re r3 (by simp)
      exact ⟨u0, u1, u2, u3, ⟨a, b⟩, ⟨a', b'⟩, ⟨a2, b2⟩, ⟨a3, b3⟩, rfl⟩
  subst e
  clear re lr
  have t1 : s0 * s1 ≤ 3 * 3 := Nat.mul_le_mul a0.2 a1.2
  have t2 : s2 * s3 ≤ 3 * 3 := Nat.mul_le_mul a2.2 a3.2
  -- one, other
  refine ks_par (i := 2) (j := 3) (m1 := m + 4 + (2 + s0 * s1) + (2 + s2 * s3)) (S := fun cs => ∃ A B : Mx, cs = [.d (matD A), .d (matD B)] ∧ Lm A s0 s1 ∧ Lm B s2 s3) rfl c__law_are_corners_right.nd rfl rfl (by decide) rfl rfl (ka_cons (m1 := m + 4 + (2 + s0 * s1)) (R1 := fun c => ∃ A : Mx, c = .d (matD A) ∧ Lm A s0 s1) (S1' := fun cs => ∃ A : Mx, cs = [.d (matD A)] ∧ Lm A s2 s3) (k_fb3 (t := 2 + s0 * s1) hlm hr (by decide) (yv 0) (y_ix (x_lst (ds := [.int (s0 : Nat), .int (s1 : Nat), .int (s2 : Nat), .int (s3 : Nat)]) (i := 0) rfl) (yv 1) y_int) (y_ix (x_lst (ds := [.int (s0 : Nat), .int (s1 : Nat), .int (s2 : Nat), .int (s3 : Nat)]) (i := 1) rfl) (yv 1) y_int) ⟨_, ⟨s0, s1, rfl, a0.1, by omega, a1.1, by omega, rfl, rfl⟩, fun d hd => ?_⟩ rfl (by omega)) (ka_cons (m1 := m + 4 + (2 + s0 * s1) + (2 + s2 * s3)) (R1 := fun c => ∃ A : Mx, c = .d (matD A) ∧ Lm A s2 s3) (S1' := fun cs => cs = []) (k_fb3 (t := 2 + s2 * s3) hlm hr (by decide) (yv 0) (y_ix (x_lst (ds := [.int (s0 : Nat), .int (s1 : Nat), .int (s2 : Nat), .int (s3 : Nat)]) (i := 2) rfl) (yv 1) y_int) (y_ix (x_lst (ds := [.int (s0 : Nat), .int (s1 : Nat), .int (s2 : Nat), .int (s3 : Nat)]) (i := 3) rfl) (yv 1) y_int) ⟨_, ⟨s2, s3, rfl, a2.1, by omega, a3.1, by omega, rfl, rfl⟩, fun d hd => ?_⟩ rfl (by omega)) (ka_nil rfl) (fun c cs h1 h2 => ?_)) (fun c cs h1 h2 => ?_)) (fun cs hcs => ?_)
  · obtain ⟨M, rfl, hM⟩ := hd
    exact ⟨M, rfl, hM⟩
  · obtain ⟨M, rfl, hM⟩ := hd
    exact ⟨M, rfl, hM⟩
  · obtain ⟨M, rfl, hM⟩ := h1
    subst h2
    exact ⟨M, rfl, hM⟩
  · obtain ⟨M, rfl, hM⟩ := h1
    obtain ⟨M', rfl, hM'⟩ := h2
    exact ⟨M, M', rfl, hM, hM'⟩
  obtain ⟨A', B', rfl, lA, lB⟩ := hcs
  refine ⟨_, _, rfl, ?_⟩
  have mA := lA.mt a0.1 a1.1 (by omega)
  have mB := lB.mt a2.1 a3.1 (by omega)
  have lenA := lA.len
  have lenB := lB.len
  obtain ⟨x, bx⟩ := mA.told (m := 3) (by omega)
  obtain ⟨y, by'⟩ := mB.told (m := 3) (by omega)
  have bx : Best A' s1 97 x := bx
  have by' : Best B' s3 97 y := by'
  -- first, second
  refine ks_det (s_par (i := 4) (j := 5) rfl c__law_are_corners_right.nd rfl rfl (by decide) rfl rfl (a_cons (y_cb1 hto hr (by decide) (yv 2) (told_of bx)) (a_cons (y_cb1 hto hr (by decide) (yv 3) (told_of by')) a_nil)) ?_)
  generalize [PyData.int (s0 : Nat), .int (s1 : Nat), .int (s2 : Nat), .int (s3 : Nat)] = rs
  -- one row, one column
  refine ks_det (s_forP (j1 := 6) (j2 := 7) (ds := [.tuple [matD A', toldD x], .tuple [matD B', toldD y]]) PassesOwn.never rfl c__law_are_corners_right.nd rfl rfl (.inl rfl) (.inl rfl) (i_tup (y_tup2 (y_tup2 (yv 2) (yv 4)) (y_tup2 (yv 3) (yv 5)))) (fun i δ => ∃ o6 o7 o8 o10 o11 o12, δ = dC p rs A' B' x y o6 o7 o8 o10 o11 o12) ⟨none, none, none, none, none, none, rfl⟩ (fun i d δ' hd hI => ?_) (fun δ' hI => ?_))
  · obtain ⟨o6, o7, o8, o10, o11, o12, rfl⟩ := hI
    obtain ⟨M, n, z, rfl, mM, bz, lM, ln⟩ : ∃ M n z, d = .tuple [matD M, toldD z] ∧ Mt2 M n 10 10 ∧ Best M n 97 z ∧ M.length ≤ 3 ∧ n ≤ 3 := by
      match i, hd with
      | 0, hd =>
        cases hd
        exact ⟨A', s1, x, rfl, mA, bx, by omega, by omega⟩
      | 1, hd =>
        cases hd
        exact ⟨B', s3, y, rfl, mB, by', by omega, by omega⟩
      | i + 2, hd => simp at hd
    refine ⟨matD M, toldD z, rfl, ?_⟩
    have m1 := mM.m1
    have n1 := mM.n1
    have er0 : M[0]? = some (M.getD 0 []) := by rw [List.getD_eq_getElem?_getD, List.getElem?_eq_getElem (show 0 < M.length by omega)]; rfl
    have at0 : atI (M.map rowD) 0 = some (rowD (M.getD 0 [])) := atI_nat (j := 0) (by rw [List.getElem?_map, er0]; rfl)
    have hr0 : (M.getD 0 []).length = n := mM.row0
    have bq : ∀ r ∈ M, ∀ q ∈ r, Bq 1000 q := fun r hr q hq => (lq_bq (mM.en r hr q hq)).mono (by decide)
    have dn : ∀ q : Rat, q = z.v → PyData.eqv (frD z.v) (frD q) = true := fun q e => by rw [e, eqv_frs, decide_eq_true rfl]
    by_cases hm1 : M.length = 1
    · -- a row
      have mem0 : M.getD 0 [] ∈ M := by rw [row_at (by omega)]; exact List.getElem_mem (by omega)
      have due := row_due mM bz hm1
      have bR : ∀ q ∈ M.getD 0 [], Bq 1000 q := bq _ mem0
      revert hr0 at0 mem0 due bR
      generalize M.getD 0 [] = R
      intro at0 hr0 mem0 due bR
      have g0 := get0 (l := R) (by omega)
      refine s_cons (s_asg (d := .tuple [.tuple (frs R), .int 1]) (y_if (t_cmp o_eqI (y_b1 (c_lenT (ds := M.map rowD)) B.len (yv 6)) y_int rfl) (fun hk => y_tup2 (y_ix (x_tup (ds := M.map rowD) at0) (yv 6) y_int) y_int) (fun hk => ?_)) (g_tup (ds := [.tuple (frs R), .int 1]) rfl (gs_cons (g_name (i := 11) c__law_are_corners_right.nd rfl (.inl rfl)) (gs_cons (g_name (i := 12) c__law_are_corners_right.nd rfl (.inl rfl)) gs_nil))) ?_)
      · have := of_decide_eq_false hk
        rw [List.length_map] at this
        omega
      refine s_cons (s_set (i := 10) c__law_are_corners_right.nd rfl (.inl rfl) (y_ix (x_tup (ds := frs R) (d := frD (R.getD 0 0)) (atI_nat (j := 0) (frs_get g0))) (yv 11) y_int) ?_)
      refine s_cons (s_forN (j := 8) (ds := frs R) PassesOwn.never rfl c__law_are_corners_right.nd rfl (.inl rfl) (i_tup (yv 11)) (fun i δ => ∃ o8, δ = dC p rs A' B' x y (some (.d (matD M))) (some (.d (toldD z))) o8 (some (.d (frD ((R.take i).foldl loQ (R.getD 0 0))))) (some (.d (.tuple (frs R)))) (some (.d (.int 1)))) ⟨_, rfl⟩ (fun i d δ' hd hI => ?_) (fun δ' hI => ?_))
      · obtain ⟨o8, rfl⟩ := hI
        obtain ⟨q, eq, rfl⟩ := frs_at hd
        have bq1 := bR q (List.mem_of_getElem? eq)
        have bf : Bq 1000 ((R.take i).foldl loQ (R.getD 0 0)) := fold_bq loQ_or (bR _ (getD_mem (by omega))) fun q hq => bR q (List.mem_of_mem_take hq)
        refine s_one (s_set (i := 10) (c := .d (frD (loQ ((R.take i).foldl loQ (R.getD 0 0)) q))) c__law_are_corners_right.nd rfl (.inl rfl) (y_if (t_val (y_cb2 hl hr (by decide) (y_tup2 (y_op (o_mul ?_) (yv 12) (y_fr0 (yv 8))) (y_fr1 (yv 8))) (y_tup2 (y_op (o_mul ?_) (yv 12) (y_fr0 (yv 10))) (y_fr1 (yv 10))) (less_pos bq1 bf))) (fun hk => ?_) (fun hk => ?_)) ⟨some (.d (frD q)), ?_⟩)
        · exact mulOk (a := 2) (bt_of (by decide)) bq1.n
        · exact mulOk (a := 2) (bt_of (by decide)) bf.n
        · rw [show loQ ((R.take i).foldl loQ (R.getD 0 0)) q = q from if_pos (of_decide_eq_true hk)]
          exact yv 8
        · rw [show loQ ((R.take i).foldl loQ (R.getD 0 0)) q = (R.take i).foldl loQ (R.getD 0 0) from if_neg (of_decide_eq_false hk)]
          exact yv 10
        · rw [foldl_take loQ (R.getD 0 0) eq]
          rfl
      · obtain ⟨o8, rfl⟩ := hI
        rw [frs_len, List.take_length, ← due]
        refine s_one (s_if (t_w (w_and (l := false) (t_cmp o_eqI (y_b2 (c_min2 rfl) B.min (y_b1 (c_lenT (ds := M.map rowD)) B.len (yv 6)) (y_b1 (c_lenT (ds := frs R)) B.len (y_ix (x_tup (ds := M.map rowD) at0) (yv 6) y_int))) y_int rfl) fun hk => w_and1 (t_conv (t_cmp (o_neD (d := frD z.v) (e := frD z.v) hr.units (shp_fr _) (shp_fr _)) (y_ix (x_tup (v0T z)) (yv 7) y_int) (yv 10) rfl) (by rw [dn _ rfl]; rfl)))) (fun hk => absurd hk (by simp)) fun _ => s_nil ⟨_, _, _, _, _, _, rfl⟩)
    · -- a column
      have cl : (colM M 0).length = M.length := colM_len
      have bR : ∀ q ∈ colM M 0, Bq 1000 q := fun q hq => by
        obtain ⟨r, hr', rfl⟩ := List.mem_map.mp hq
        exact bq r hr' _ (getD_mem (by rw [mM.wd r hr']; omega))
      have hn : n = 1 → z.v = (colM M 0).foldl hiQ ((colM M 0).getD 0 0) := fun e => by
        subst e
        exact col_due mM bz
      have ecol : ∀ (j : Nat) (d r : PyData), (M.map rowD)[j]? = some d → (frs (colM M 0))[j]? = some r → ∃ row : List Rat, d = rowD row ∧ atI (frs row) 0 = some r := fun j d r hd hr' => by
        obtain ⟨row, erow, rfl⟩ := mat_at hd
        obtain ⟨q, eq, rfl⟩ := frs_at hr'
        unfold colM at eq
        rw [List.getElem?_map, erow] at eq
        cases eq
        exact ⟨row, rfl, atI_nat (j := 0) (frs_get (get0 (by rw [mM.wd row (List.mem_of_getElem? erow)]; omega)))⟩
      revert cl bR hn ecol
      generalize colM M 0 = R
      intro cl bR hn ecol
      have g0 := get0 (l := R) (by omega)
      refine s_cons (s_asg (d := .tuple [.list (frs R), .int (-1)]) (y_if (t_cmp o_eqI (y_b1 (c_lenT (ds := M.map rowD)) B.len (yv 6)) y_int rfl) (fun hk => ?_) (fun hk => y_tup2 (y_lcN (rs := frs R) c__law_are_corners_right.nd 16 (i_tup (ds := M.map rowD) (yv 6)) b__law_are_corners_right_1 (by rw [frs_len, List.length_map, cl]) (fun j d r hd hr' s H0 C cl fp => ?_) (by rw [List.length_map]; omega)) (y_neg y_int))) (g_tup (ds := [.list (frs R), .int (-1)]) rfl (gs_cons (g_name (i := 11) c__law_are_corners_right.nd rfl (.inl rfl)) (gs_cons (g_name (i := 12) c__law_are_corners_right.nd rfl (.inl rfl)) gs_nil))) ?_)
      · have := of_decide_eq_true hk
        rw [List.length_map] at this
        omega
      · obtain ⟨row, rfl, hat⟩ := ecol j d r hd hr'
        exact y_ix (x_tup (ds := frs row) hat) (yv 16) y_int
      refine s_cons (s_set (i := 10) c__law_are_corners_right.nd rfl (.inl rfl) (y_ix (x_lst (ds := frs R) (d := frD (R.getD 0 0)) (atI_nat (j := 0) (frs_get g0))) (yv 11) y_int) ?_)
      refine s_cons (s_forN (j := 8) (ds := frs R) PassesOwn.never rfl c__law_are_corners_right.nd rfl (.inl rfl) (i_list (yv 11)) (fun i δ => ∃ o8, δ = dC p rs A' B' x y (some (.d (matD M))) (some (.d (toldD z))) o8 (some (.d (frD ((R.take i).foldl hiQ (R.getD 0 0))))) (some (.d (.list (frs R)))) (some (.d (.int (-1))))) ⟨_, rfl⟩ (fun i d δ' hd hI => ?_) (fun δ' hI => ?_))
      · obtain ⟨o8, rfl⟩ := hI
        obtain ⟨q, eq, rfl⟩ := frs_at hd
        have bq1 := bR q (List.mem_of_getElem? eq)
        have bf : Bq 1000 ((R.take i).foldl hiQ (R.getD 0 0)) := fold_bq hiQ_or (bR _ (getD_mem (by omega))) fun q hq => bR q (List.mem_of_mem_take hq)
        refine s_one (s_set (i := 10) (c := .d (frD (hiQ ((R.take i).foldl hiQ (R.getD 0 0)) q))) c__law_are_corners_right.nd rfl (.inl rfl) (y_if (t_val (y_cb2 hl hr (by decide) (y_tup2 (y_op (o_mul ?_) (yv 12) (y_fr0 (yv 8))) (y_fr1 (yv 8))) (y_tup2 (y_op (o_mul ?_) (yv 12) (y_fr0 (yv 10))) (y_fr1 (yv 10))) (less_neg bq1 bf))) (fun hk => ?_) (fun hk => ?_)) ⟨some (.d (frD q)), ?_⟩)
        · exact mulOk (a := 2) (bt_of (by decide)) bq1.n
        · exact mulOk (a := 2) (bt_of (by decide)) bf.n
        · rw [show hiQ ((R.take i).foldl hiQ (R.getD 0 0)) q = q from if_pos (of_decide_eq_true hk)]
          exact yv 8
        · rw [show hiQ ((R.take i).foldl hiQ (R.getD 0 0)) q = (R.take i).foldl hiQ (R.getD 0 0) from if_neg (of_decide_eq_false hk)]
          exact yv 10
        · rw [foldl_take hiQ (R.getD 0 0) eq]
          rfl
      · obtain ⟨o8, rfl⟩ := hI
        rw [frs_len, List.take_length]
        refine s_one (s_if (t_w (w_and (l := false) (t_cmp o_eqI (y_b2 (c_min2 rfl) B.min (y_b1 (c_lenT (ds := M.map rowD)) B.len (yv 6)) (y_b1 (c_lenT (ds := frs (M.getD 0 []))) B.len (y_ix (x_tup (ds := M.map rowD) at0) (yv 6) y_int))) y_int rfl) fun hk => w_and1 (t_conv (t_cmp (o_neD (d := frD z.v) (e := frD (R.foldl hiQ (R.getD 0 0))) hr.units (shp_fr _) (shp_fr _)) (y_ix (x_tup (v0T z)) (yv 7) y_int) (yv 10) rfl) ?_))) (fun hk => absurd hk (by simp)) fun _ => s_nil ⟨_, _, _, _, _, _, rfl⟩)
        have h1 := of_decide_eq_true hk
        rw [frs_len, List.length_map, hr0] at h1
        have h2 : n = 1 := by
          split at h1 <;> omega
        rw [dn _ (hn h2).symm]
        rfl
  obtain ⟨o6, o7, o8, o10, o11, o12, rfl⟩ := hI
  -- the number
  have er0 : A'[0]? = some (A'.getD 0 []) := by rw [List.getD_eq_getElem?_getD, List.getElem?_eq_getElem (show 0 < A'.length by omega)]; rfl
  have at0 : atI (A'.map rowD) 0 = some (rowD (A'.getD 0 [])) := atI_nat (j := 0) (by rw [List.getElem?_map, er0]; rfl)
  have hr0 : (A'.getD 0 []).length = s1 := mA.row0
  have g0 := get0 (l := A'.getD 0 []) (by omega)
  have lq0 : Lq ((A'.getD 0 []).getD 0 0) := lA.en _ (List.mem_of_getElem? er0) _ (getD_mem (by omega))
  have hb0 : (B'.getD 0 []).length = s3 := mB.row0
  revert at0 hr0 g0 lq0
  generalize hR : A'.getD 0 [] = R
  intro at0 hr0 g0 lq0
  refine ks_set (i := 8) (m1 := m + 4 + (2 + s0 * s1) + (2 + s2 * s3) + 2) (R := fun c => ∃ q, c = .d (frD q) ∧ Lq q) c__law_are_corners_right.nd rfl (.inl rfl) (k_fb2 (m1 := m + 4 + (2 + s0 * s1) + (2 + s2 * s3) + 1) (t := 1) (R1 := fun c => ∃ q, c = .d (.list [frD 0, frD 100, frD 50, frD (R.getD 0 0), frD q]) ∧ Lq q) ho hr (by decide) (yv 0) (k_lst (S := fun cs => ∃ q, cs = [.d (frD 0), .d (frD 100), .d (frD 50), .d (frD (R.getD 0 0)), .d (frD q)] ∧ Lq q) (ka_cons (R1 := fun c => c = .d (frD 0)) (S1' := fun cs => ∃ q, cs = [.d (frD 100), .d (frD 50), .d (frD (R.getD 0 0)), .d (frD q)] ∧ Lq q) (k_y (y_conv (y_tup2 y_int y_int) rfl) rfl) (ka_cons (R1 := fun c => c = .d (frD 100)) (S1' := fun cs => ∃ q, cs = [.d (frD 50), .d (frD (R.getD 0 0)), .d (frD q)] ∧ Lq q) (k_y (y_conv (y_tup2 y_int y_int) rfl) rfl) (ka_cons (R1 := fun c => c = .d (frD 50)) (S1' := fun cs => ∃ q, cs = [.d (frD (R.getD 0 0)), .d (frD q)] ∧ Lq q) (k_y (y_conv (y_tup2 y_int y_int) rfl) rfl) (ka_cons (R1 := fun c => c = .d (frD (R.getD 0 0))) (S1' := fun cs => ∃ q, cs = [.d (frD q)] ∧ Lq q) (k_y (y_ix (x_tup (ds := frs R) (atI_nat (j := 0) (frs_get g0))) (y_ix (x_tup (ds := A'.map rowD) at0) (yv 2) y_int) y_int) rfl) (ka_cons (R1 := fun c => ∃ q, c = .d (frD q) ∧ Lq q) (S1' := fun cs => cs = []) (k_cb2 (R1 := fun c' => ∃ t : Nat, t ≤ 100 ∧ c' = .d (.int (t : Nat))) hs hr (by decide) (k_ty1 (T := "int") (R1 := fun c' => ∃ t : Nat, t ≤ 100 ∧ c' = .d (.int (t : Nat))) (fun c1 h1 => ?_) B.int (k_fb2 (m1 := m + 4 + (2 + s0 * s1) + (2 + s2 * s3)) (R1 := fun c' => c' = .d (.int (101 : Nat))) (t := 1) ht hr (by decide) (yv 0) (k_y y_int rfl) (fun c' hc => ⟨_, ⟨101, by rw [hc], by decide, by decide, rfl, rfl⟩, fun d hd => ?_⟩) rfl (by omega))) y_int (fun c1 h1 => ?_)) (ka_nil rfl) (fun c cs h1 h2 => ?_)) (fun c cs h1 h2 => ?_)) (fun c cs h1 h2 => ?_)) (fun c cs h1 h2 => ?_)) (fun c cs h1 h2 => ?_)) (fun cs h1 => ?_)) (fun c hc => ?_) rfl (by omega)) (fun c hc => ?_)
  · obtain ⟨t, ht, rfl⟩ := h1
    exact ⟨_, ⟨t, ht, rfl⟩, c_int⟩
  · obtain ⟨t, ht, rfl⟩ := hd
    exact ⟨t, by omega, rfl⟩
  · obtain ⟨t, ht, rfl⟩ := h1
    exact ⟨_, ⟨t, 1, rfl, by decide, by decide, rfl⟩, _, rfl, t, 1, ht, .inl rfl, rfl⟩
  · obtain ⟨q, rfl, hq⟩ := h1
    subst h2
    exact ⟨q, rfl, hq⟩
  · subst h1
    obtain ⟨q, rfl, hq⟩ := h2
    exact ⟨q, rfl, hq⟩
  · subst h1
    obtain ⟨q, rfl, hq⟩ := h2
    exact ⟨q, rfl, hq⟩
  · subst h1
    obtain ⟨q, rfl, hq⟩ := h2
    exact ⟨q, rfl, hq⟩
  · subst h1
    obtain ⟨q, rfl, hq⟩ := h2
    exact ⟨q, rfl, hq⟩
  · obtain ⟨q, rfl, hq⟩ := h1
    exact ⟨[frD 0, frD 100, frD 50, frD (R.getD 0 0), frD q], rfl, by show 5 ≤ 1000; decide, q, rfl, hq⟩
  · obtain ⟨q, rfl, hq⟩ := hc
    refine ⟨_, ⟨[frD 0, frD 100, frD 50, frD (R.getD 0 0), frD q], rfl, by show 1 ≤ 5; decide, by show 5 ≤ 1000; decide, rfl, rfl⟩, fun d hd => ?_⟩
    simp only [List.mem_cons, List.not_mem_nil, or_false] at hd
    rcases hd with e | e | e | e | e
    · exact ⟨0, by rw [e], 0, 1, by decide, .inl rfl, by decide +kernel⟩
    · exact ⟨100, by rw [e], 100, 1, by decide, .inl rfl, by decide +kernel⟩
    · exact ⟨50, by rw [e], 50, 1, by decide, .inl rfl, by decide +kernel⟩
    · exact ⟨_, by rw [e], lq0⟩
    · exact ⟨q, by rw [e], hq⟩
  obtain ⟨z, rfl, lz⟩ := hc
  have hz := lz.en
  have sz : (A'.length + B'.length) * (s1 + s3) ≤ 6 * 6 := Nat.mul_le_mul (by omega) (by omega)
  have mC := corn_mt mA mB hz (by omega)
  obtain ⟨wt, bw⟩ := mC.told (m := 6) (by rw [corn_len]; omega)
  have bw : Best (cornersM A' B' z) (s1 + s3) 769 wt := bw
  have ed := corn_due mA mB bx by' bw
  have okC := (Pap.of mC bw (by rw [corn_len]; omega) (by omega) (by decide)).ok (by decide)
  have x0 := mA.v0 bx
  have y0 := mB.v0 by'
  have bzv := lq_bq hz
  have lx : Ls x.v := ⟨x0, bx.vS.mono (by decide)⟩
  have ly : Ls y.v := ⟨y0, by'.vS.mono (by decide)⟩
  have lz' : Ls z := ⟨hz.1, bzv.mono (by decide)⟩
  have m5 : m + 4 + (2 + s0 * s1) + (2 + s2 * s3) + 2 ≤ m + 28 := by omega
  have last : ∀ {δ : DE} {j : Nat} {p1 p2 : Pos}, Ks (bX P w K mg base NC "_law_are_corners_right" s__law_are_corners_right f cdv A outer s H E0) p (m + 4 + (2 + s0 * s1) + (2 + s2 * s3) + 2) [.Return (some (.Constant (.bool true) j p1)) p2] δ { nx := fun _ _ => False, rt := fun c n => n ≤ m + 28 ∧ c = .d (.bool true) } := fun {δ j p1 p2} => ks_ret (k_y (R := fun c => c = .d (.bool true)) y_bl rfl) fun c hc => ⟨m5, hc⟩
  -- both, due
  refine ks_det (s_par (i := 9) (j := 10) (c2 := .d (frD wt.v)) rfl c__law_are_corners_right.nd rfl rfl (by decide) rfl rfl (a_cons (y_cb3 hco hr (by decide) (yv 2) (yv 3) (yv 8) ⟨A', B', z, rfl, by omega, by omega, by omega, by omega, by rw [hR]; omega, by omega, fun r hr => by rw [mA.wd r hr]; omega, fun r hr => by rw [mB.wd r hr]; omega, rfl⟩) (a_cons (y_conv (y_cb3 hdu hr (by decide) (y_ix (x_tup (v0T x)) (yv 4) y_int) (y_ix (x_tup (v0T y)) (yv 5) y_int) (yv 8) ⟨x.v, y.v, z, rfl, x0, y0, hz.1, bx.vS.mono (by decide), by'.vS.mono (by decide), bzv.mono (by decide), rfl⟩) (by rw [ed])) a_nil)) ?_)
  -- told
  refine ks_det (s_set (i := 7) c__law_are_corners_right.nd rfl (.inl rfl) (y_cb1 hto hr (by decide) (yv 9) (told_of bw)) ?_)
  refine ks_det (s_if (k := false) (t_w (w_or (k := false) (l := false) (t_conv (t_cmp o_neS (y_reprF hgd hr.units B.repr (y_ix (x_tup (v0T wt)) (yv 7) y_int) bw.vS (by decide)) (y_reprF hgd hr.units B.repr (yv 10) bw.vS (by decide)) rfl) (by simp)) fun _ => w_or1 (t_conv (t_cmp o_notB (y_cb2 hsh hr (by decide) (yv 9) (yv 7) ⟨_, _, wt, rfl, okC, by rw [bw.shw.says mC]⟩) y_bl rfl) rfl))) (fun z => by cases z) fun _ => s_nil ?_)
  -- joined shares
  refine ks_det (s_if (t_w (w_and (t_val (y_cb2 hl hr (by decide) (yv 8) (y_ix (x_tup (v0T x)) (yv 4) y_int) (less_fr (bzv.mono (by decide)) (bx.vS.mono (by decide))))) fun _ => w_and1 (t_val (y_cb2 hl hr (by decide) (yv 8) (y_ix (x_tup (v0T y)) (yv 5) y_int) (less_fr (bzv.mono (by decide)) (by'.vS.mono (by decide))))))) (fun hk => ?_) (fun hk => s_nil last))
  have hk' : z < x.v ∧ z < y.v := by simpa using hk
  obtain ⟨zx, zy⟩ := hk'
  have bg : Bq 109 (x.v - z) := bx.vS.sub bzv
  have bh : Bq 109 (y.v - z) := by'.vS.sub bzv
  have sJ := corn_shw mA mB bx by' zx zy
  have pJ := corn_pap mA mB hz bx by' zx zy mC (by omega) (by omega) (by rw [← ed]; exact bw.vS.mono (by decide))
  have eP : PyData.tuple [frD wt.v, .tuple (frs (joinL x.rows y.rows (x.v - z) (y.v - z))), .tuple (frs (joinL x.cols y.cols (x.v - z) (y.v - z)))] = toldD (joinP x y z) := by rw [ed]; rfl
  refine s_cons (s_set (i := 13) c__law_are_corners_right.nd rfl (.inl rfl) (y_lst2 (y_cb2 hmi hr (by decide) (y_ix (x_tup (v0T x)) (yv 4) y_int) (yv 8) ⟨x.v, z, rfl, lx, lz', Rat.le_of_lt zx, rfl⟩) (y_cb2 hmi hr (by decide) (y_ix (x_tup (v0T y)) (yv 5) y_int) (yv 8) ⟨y.v, z, rfl, ly, lz', Rat.le_of_lt zy, rfl⟩)) ?_)
  refine s_cons (s_set (i := 14) c__law_are_corners_right.nd rfl (.inl rfl) (y_conv (y_tup3 (yv 10) (y_cb3 hjo hr (by decide) (y_ix (x_tup (v1T x)) (yv 4) y_int) (y_ix (x_tup (v1T y)) (yv 5) y_int) (yv 13) ⟨x.rows, y.rows, x.v - z, y.v - z, rfl, by rw [bx.rl]; omega, by rw [by'.rl]; omega, fun q hq => ⟨bx.r0 q hq, (bx.rS q hq).mono (by decide)⟩, fun q hq => ⟨by'.r0 q hq, (by'.rS q hq).mono (by decide)⟩, by grind, by grind, bg.mono (by decide), bh.mono (by decide), rfl⟩) (y_cb3 hjo hr (by decide) (y_ix (x_tup (v2T x)) (yv 4) y_int) (y_ix (x_tup (v2T y)) (yv 5) y_int) (yv 13) ⟨x.cols, y.cols, x.v - z, y.v - z, rfl, by rw [bx.cl]; omega, by rw [by'.cl]; omega, fun q hq => ⟨bx.c0 q hq, (bx.cS q hq).mono (by decide)⟩, fun q hq => ⟨by'.c0 q hq, (by'.cS q hq).mono (by decide)⟩, by grind, by grind, bg.mono (by decide), bh.mono (by decide), rfl⟩)) eP) ?_)
  clear eP
  have okJ := pJ.ok (by decide)
  have okR := pJ.rev.ok (by decide)
  have paJ := pJ.pal (by decide) (by decide)
  revert sJ pJ okJ okR paJ
  generalize joinP x y z = J
  intro sJ pJ okJ okR paJ
  have eR : PyData.tuple (([frD J.v] ++ [.tuple (frs J.rows).reverse]) ++ [.tuple (frs J.cols)]) = toldD ⟨J.v, J.rows.reverse, J.cols⟩ := by rw [frs_rev]; rfl
  refine s_one (s_if (k := false) (t_w (w_or (k := false) (l := false) (t_conv (t_cmp o_notB (y_cb2 hsh hr (by decide) (yv 9) (yv 14) ⟨_, _, J, rfl, okJ, by rw [sJ.says mC]⟩) y_bl rfl) rfl) fun _ => w_or1 (t_conv (t_cmp o_neB (y_cb2 hsh hr (by decide) (yv 9) (y_conv (y_op (o_catT (ds := [frD J.v] ++ [.tuple (frs J.rows).reverse]) (es := [.tuple (frs J.cols)]) (by show 3 ≤ 1000; decide)) (y_op (o_catT (ds := [frD J.v]) (es := [.tuple (frs J.rows).reverse]) (by show 2 ≤ 1000; decide)) (y_conv (y_cutT (ds := [frD J.v, .tuple (frs J.rows), .tuple (frs J.cols)]) (yv 14) p_none (p_some y_int)) rfl) (y_tup1 (y_revT (ds := frs J.rows) (y_ix (x_tup (v1T J)) (yv 14) y_int)))) (y_conv (y_cutT (ds := [frD J.v, .tuple (frs J.rows), .tuple (frs J.cols)]) (yv 14) (p_some y_int) p_none) rfl)) eR) ⟨_, _, _, rfl, okR, by rw [sJ.says_rev mC]⟩) (y_cb2 hpa hr (by decide) (yv 9) (yv 14) ⟨_, _, J, rfl, paJ, rfl⟩) rfl) (by simp)))) (fun z => by cases z) fun _ => s_nil last)
end
end KP
set_option linter.all false
set_option maxRecDepth 100000
set_option maxHeartbeats 4000000
set_option exponentiation.threshold 4000
/-! _law_are_sides_right -/
namespace KP
open PySem PySem.Spec PyProof.Rows L2 KW K68
section
variable {X : Cx} {δ : DE} {a b e : Expr}
theorem o_eqS {i j : Str} : Oy X (compareOp .Eq) (.d (.str i)) (.d (.str j)) (.d (.bool (decide (i = j)))) := ⟨_, op_eq, fun x y H G Q eg o1 o2 q => by
  have o1' : Rp X.K G x (.str i) := o1
  have o2' : Rp X.K G y (.str j) := o2
  cases o1'
  cases o2'
  refine ⟨rfl, ?_⟩
  have e : decide (V.str i = V.str j) = decide (i = j) := by
    by_cases z : i = j
    · rw [z]; simp
    · rw [decide_eq_false z, decide_eq_false fun q => z (V.str.inj q)]
  rw [e]
  exact q _ H G (Vx.refl eg) (.bl _)⟩
end
theorem b3_of {N : List Str} {sc : Scope} (hi : N[19]? = some ("share" : Str)) (h0 : (".0" : Str) ∉ N) (h : sc.names.lookup ("more" : Str) = some .cell ∨ sc.names.lookup ("more" : Str) = some .free) : BlkOk N sc z__law_are_sides_right_3 [("share", 19)] := by
  refine ⟨rfl, by decide +kernel, fun p hp => ?_, fun y hy hf => ?_, fun y hy hf => ?_⟩
  · rw [List.mem_singleton.mp hp]
    exact hi
  · simp only [List.mem_cons, List.not_mem_nil, or_false] at hy
    rcases hy with e | e | e | e | e
    · rw [e] at hf; cases hf
    · rw [e] at hf; cases hf
    · rw [e] at hf; cases hf
    · rw [e] at hf; cases hf
    · rw [e]; exact h
  · simp only [List.mem_cons, List.not_mem_nil, or_false] at hy
    rcases hy with e | e | e | e | e
    · rw [e]; exact .inr h0
    · rw [e]; exact .inl (by simp)
    · rw [e] at hf; rcases hf with z | z <;> cases z
    · rw [e] at hf; rcases hf with z | z <;> cases z
    · rw [e] at hf; rcases hf with z | z <;> cases z
abbrev NS : List Str := ["pot", "rows", "columns", "one", "other", "first", "second", "least", "most", "beside", "below", "again", "more", "line", "told", "paper", "great", "row", "its", "share"]
abbrev fC (q : Rat) : Option Cl := some (.d (frD q))
abbrev dS (p : Addr) (r n : Nat) (A B : Mx) (o5 o6 o7 o8 o9 o10 o11 o12 o13 o14 o15 o16 : Option Cl) : DE := [some (.v (.ref p)), some (.d (.int (r : Nat))), some (.d (.int (n : Nat))), some (.d (matD A)), some (.d (matD B)), o5, o6, o7, o8, o9, o10, o11, o12, o13, o14, o15, o16, none, none, none]
theorem fr_of {i : Int} {n : Nat} {q : Rat} (h1 : q.num = i) (h2 : q.den = n) : PyData.tuple [.int i, .int (n : Nat)] = frD q := by
  unfold frD
  rw [h1, h2]
theorem third_d : PyData.tuple [.int 1, .int 3] = frD thirdQ := fr_of (n := 3) (by decide +kernel) (by decide +kernel)
theorem d1003 : PyData.tuple [.int 100, .int 3] = frD (100 / 3) := fr_of (n := 3) (by decide +kernel) (by decide +kernel)
theorem d2003 : PyData.tuple [.int 200, .int 3] = frD (200 / 3) := fr_of (n := 3) (by decide +kernel) (by decide +kernel)
theorem ls_third : Ls thirdQ := ⟨by decide +kernel, ⟨by unfold Bt; decide +kernel, by unfold Bt; decide +kernel⟩⟩
def More (a : Rat) : Prop := a = 0 ∨ a = 100 / 3 ∨ a = 200 / 3
theorem More.ls {a : Rat} (h : More a) : Ls a := by
  rcases h with z | z | z <;> subst z
  · exact ⟨by decide +kernel, ⟨by unfold Bt; decide +kernel, by unfold Bt; decide +kernel⟩⟩
  · exact ⟨by decide +kernel, ⟨by unfold Bt; decide +kernel, by unfold Bt; decide +kernel⟩⟩
  · exact ⟨by decide +kernel, ⟨by unfold Bt; decide +kernel, by unfold Bt; decide +kernel⟩⟩
theorem third_bq : Bq 2 thirdQ := ⟨by unfold Bt; decide +kernel, by unfold Bt; decide +kernel⟩
theorem quad_rows (A : Mx) : ((List.replicate 4 (A.map rowD)).flatten).take 4 = (quadM A).map rowD := by
  unfold quadM
  rw [List.map_take, List.map_flatten, List.map_replicate]
theorem cut_take {ds : List PyData} {k : Nat} (h : k ≤ ds.length) : KW.cutD ds none (some (k : Int)) = ds.take k := by
  unfold KW.cutD
  rw [HT.sIx_nat, HT.sIx_none, Nat.min_eq_left h, Nat.sub_zero, List.drop_zero]
theorem rep_rows (k : Nat) (r : List Rat) : (List.replicate k (frs r)).flatten = frs (List.replicate k r).flatten := by
  unfold frs
  rw [List.map_flatten, List.map_replicate]
section
variable {P : Program} {w : World} {K : PySem.W.Frag} {mg : Str → Option Value} {base : Heap}
theorem ok_sides (B : Bl mg) (h : Has K mg "_law_are_sides_right" s__law_are_sides_right ["pot"]) (ht : Fb P w K mg base 1 "_law_take" (spK K R_take)) (ho : Fb P w K mg base 2 "_law_of" (spK K R_of)) (hlm : Fb P w K mg base 3 "_law_matrix" (spK K R_lmat))
    (hto : Cb P w K mg base 8 "matrix_told" R_told) (hsh : Cb P w K mg base 6 "shows_matrix" R_shows) (hl : Cb P w K mg base 1 "_law_less" R_lless) (hpl : Cb P w K mg base 2 "_law_plus" R_lplus) (hti : Cb P w K mg base 2 "_law_times" R_ltimes) :
    Gb P w K mg base 9 "_law_are_sides_right" (spG K 39) := by
  refine Gb.of (k := 8) (t := 39) (N := NS) h c__law_are_sides_right fun f cdv A outer s H hgd hr p m hm => ?_
  refine ks_asg2 (X := bX P w K mg base NS "_law_are_sides_right" s__law_are_sides_right f cdv A outer s H E0) (i := 1) (j := 2) (m1 := m + 2) (R := fun c => ∃ l u : Nat, c = .d (.tuple [.int (l : Nat), .int (u : Nat)]) ∧ (1 ≤ l ∧ l ≤ 4) ∧ 1 ≤ u ∧ u ≤ 4) (k_tup (S := fun cs => ∃ l u : Nat, cs = [.d (.int (l : Nat)), .d (.int (u : Nat))] ∧ (1 ≤ l ∧ l ≤ 4) ∧ 1 ≤ u ∧ u ≤ 4) (ka_cons (m1 := m + 1) (R1 := fun c => ∃ l : Nat, c = .d (.int (l : Nat)) ∧ 1 ≤ l ∧ l ≤ 4) (S1' := fun cs => ∃ u : Nat, cs = [.d (.int (u : Nat))] ∧ 1 ≤ u ∧ u ≤ 4)
    (k_op (m1 := m) (R1 := fun c => c = .d (.int 1)) (R2 := fun c => ∃ u : Nat, u < 4 ∧ c = .d (.int (u : Nat))) (fun c1 c2 h1 h2 => ?_) (k_y y_int rfl) (k_fb2 (m1 := m) (t := 1) (R1 := fun c => c = .d (.int (4 : Nat))) ht hr (by decide) (yv 0) (k_y y_int rfl) (fun c hc => ⟨_, ⟨4, by rw [hc], by decide, by decide, rfl, rfl⟩, fun d hd => ?_⟩) rfl (by omega)))
    (ka_cons (m1 := m + 2) (R1 := fun c => ∃ l : Nat, c = .d (.int (l : Nat)) ∧ 1 ≤ l ∧ l ≤ 4) (S1' := fun cs => cs = []) (k_op (m1 := m + 1) (R1 := fun c => c = .d (.int 1)) (R2 := fun c => ∃ u : Nat, u < 4 ∧ c = .d (.int (u : Nat))) (fun c1 c2 h1 h2 => ?_) (k_y y_int rfl) (k_fb2 (m1 := m + 1) (t := 1) (R1 := fun c => c = .d (.int (4 : Nat))) ht hr (by decide) (yv 0) (k_y y_int rfl) (fun c hc => ⟨_, ⟨4, by rw [hc], by decide, by decide, rfl, rfl⟩, fun d hd => ?_⟩) rfl (by omega))) (ka_nil rfl) (fun c cs h1 h2 => ?_)) (fun c cs h1 h2 => ?_)) (fun cs h1 => ?_)) (pg_tup rfl (pgs_cons (pg_name (i := 1) c__law_are_sides_right.nd rfl (.inl rfl)) (pgs_cons (pg_name (i := 2) c__law_are_sides_right.nd rfl (.inr rfl)) pgs_nil))) (fun cs hcs => ?_)
  · subst h1
    obtain ⟨u, hu, rfl⟩ := h2
    exact ⟨_, ⟨1 + u, by rw [Int.natCast_add]; rfl, by omega, by omega⟩, o_add⟩
  · obtain ⟨u, hu, rfl⟩ := hd
    exact ⟨u, hu, rfl⟩
  · subst h1
    obtain ⟨u, hu, rfl⟩ := h2
    exact ⟨_, ⟨1 + u, by rw [Int.natCast_add]; rfl, by omega, by omega⟩, o_add⟩
  · obtain ⟨u, hu, rfl⟩ := hd
    exact ⟨u, hu, rfl⟩
  · obtain ⟨l, rfl, hl'⟩ := h1
    subst h2
    exact ⟨l, rfl, hl'⟩
  · obtain ⟨l, rfl, hl'⟩ := h1
    obtain ⟨u, rfl, hu⟩ := h2
    exact ⟨l, u, rfl, hl', hu⟩
  · obtain ⟨l, u, rfl, hl', hu⟩ := h1
    exact ⟨[.int (l : Nat), .int (u : Nat)], rfl, by show 2 ≤ 1000; decide, l, u, rfl, hl', hu⟩
  obtain ⟨r, n, rfl, ⟨r1, r4⟩, n1, n4⟩ := hcs
  refine ⟨_, _, rfl, ?_⟩
  have t1 : r * n ≤ 4 * 4 := Nat.mul_le_mul r4 n4
  -- one, other
  refine ks_par (i := 3) (j := 4) (m1 := m + 2 + (2 + r * n) + (2 + r * n)) (S := fun cs => ∃ A B : Mx, cs = [.d (matD A), .d (matD B)] ∧ Lm A r n ∧ Lm B r n) rfl c__law_are_sides_right.nd rfl rfl (by decide) rfl rfl (ka_cons (m1 := m + 2 + (2 + r * n)) (R1 := fun c => ∃ A : Mx, c = .d (matD A) ∧ Lm A r n) (S1' := fun cs => ∃ A : Mx, cs = [.d (matD A)] ∧ Lm A r n) (k_fb3 (t := 2 + r * n) hlm hr (by decide) (yv 0) (yv 1) (yv 2) ⟨_, ⟨r, n, rfl, r1, by omega, n1, by omega, rfl, rfl⟩, fun d hd => ?_⟩ rfl (by omega)) (ka_cons (m1 := m + 2 + (2 + r * n) + (2 + r * n)) (R1 := fun c => ∃ A : Mx, c = .d (matD A) ∧ Lm A r n) (S1' := fun cs => cs = []) (k_fb3 (t := 2 + r * n) hlm hr (by decide) (yv 0) (yv 1) (yv 2) ⟨_, ⟨r, n, rfl, r1, by omega, n1, by omega, rfl, rfl⟩, fun d hd => ?_⟩ rfl (by omega)) (ka_nil rfl) (fun c cs h1 h2 => ?_)) (fun c cs h1 h2 => ?_)) (fun cs hcs => ?_)
  · obtain ⟨M, rfl, hM⟩ := hd
    exact ⟨M, rfl, hM⟩
  · obtain ⟨M, rfl, hM⟩ := hd
    exact ⟨M, rfl, hM⟩
  · obtain ⟨M, rfl, hM⟩ := h1
    subst h2
    exact ⟨M, rfl, hM⟩
  · obtain ⟨M, rfl, hM⟩ := h1
    obtain ⟨M', rfl, hM'⟩ := h2
    exact ⟨M, M', rfl, hM, hM'⟩
  obtain ⟨A', B', rfl, lA, lB⟩ := hcs
  refine ⟨_, _, rfl, ?_⟩
  have mA := lA.mt r1 n1 (by omega)
  have mB := lB.mt r1 n1 (by omega)
  have lenA := lA.len
  have lenB := lB.len
  obtain ⟨x, bx⟩ := mA.told (m := 4) (by omega)
  obtain ⟨y, by'⟩ := mB.told (m := 4) (by omega)
  have bx : Best A' n 193 x := bx
  have by' : Best B' n 193 y := by'
  -- first, second
  refine ks_det (s_par (i := 5) (j := 6) rfl c__law_are_sides_right.nd rfl rfl (by decide) rfl rfl (a_cons (y_ix (x_tup (v0T x)) (y_cb1 hto hr (by decide) (yv 3) (told_of bx)) y_int) (a_cons (y_ix (x_tup (v0T y)) (y_cb1 hto hr (by decide) (yv 4) (told_of by')) y_int) a_nil)) ?_)
  show Ks _ p _ _ (dS p r n A' B' (fC x.v) (fC y.v) none none none none none none none none none none) _
  obtain ⟨lo, hi, elo, l1, l2, l3, l4, blo, bhi⟩ : ∃ lo hi : Rat, (lo, hi) = (if x.v < y.v then (x.v, y.v) else (y.v, x.v)) ∧ (∀ q, q ≤ x.v → q ≤ y.v → q ≤ lo) ∧ (∀ q, x.v ≤ q → y.v ≤ q → hi ≤ q) ∧ (x.v < y.v → lo = x.v ∧ hi = y.v) ∧ (¬ x.v < y.v → lo = y.v ∧ hi = x.v) ∧ Bq 193 lo ∧ Bq 193 hi := by
    by_cases z : x.v < y.v
    · exact ⟨x.v, y.v, by rw [if_pos z], fun q h1 h2 => h1, fun q h1 h2 => h2, fun _ => ⟨rfl, rfl⟩, fun k => absurd z k, bx.vS, by'.vS⟩
    · exact ⟨y.v, x.v, by rw [if_neg z], fun q h1 h2 => h2, fun q h1 h2 => h1, fun k => absurd k z, fun _ => ⟨rfl, rfl⟩, by'.vS, bx.vS⟩
  clear elo
  refine ks_det (s_asg (d := .tuple [frD lo, frD hi]) (y_if (t_val (y_cb2 hl hr (by decide) (yv 5) (yv 6) (less_fr (bx.vS.mono (by decide)) (by'.vS.mono (by decide))))) (fun hk => ?_) (fun hk => ?_)) (g_tup (ds := [frD lo, frD hi]) rfl (gs_cons (g_name (i := 7) c__law_are_sides_right.nd rfl (.inl rfl)) (gs_cons (g_name (i := 8) c__law_are_sides_right.nd rfl (.inl rfl)) gs_nil))) ?_)
  · obtain ⟨e1, e2⟩ := l3 (of_decide_eq_true hk)
    rw [e1, e2]
    exact y_tup2 (yv 5) (yv 6)
  · obtain ⟨e1, e2⟩ := l4 (of_decide_eq_false hk)
    rw [e1, e2]
    exact y_tup2 (yv 6) (yv 5)
  show Ks _ p _ _ (dS p r n A' B' (fC x.v) (fC y.v) (fC lo) (fC hi) none none none none none none none none) _
  clear l3 l4
  have eAB : A'.length = B'.length := by omega
  have mS := beside_mt mA mB eAB (by rw [lenA]; have : r * (n + n) ≤ 4 * 8 := Nat.mul_le_mul r4 (by omega); omega)
  have mU := below_mt mA mB (by rw [lenA, lenB]; have : (r + r) * n ≤ 8 * 4 := Nat.mul_le_mul (by omega) n4; omega)
  obtain ⟨xs, bs⟩ := mS.told (m := 4) (by rw [beside_len eAB]; omega)
  obtain ⟨xu, bu⟩ := mU.told (m := 8) (by rw [List.length_append]; omega)
  have bs : Best (besideM A' B') (n + n) 193 xs := bs
  have bu : Best (A' ++ B') n 3073 xu := bu
  have vS := beside_vals mA mB eAB bx by' bs
  have vU := below_vals bx by' bu
  -- beside, below
  refine ks_det (s_set (i := 9) c__law_are_sides_right.nd rfl (.inl rfl) (y_ix (x_tup (v0T xs)) (y_cb1 hto hr (by decide) (y_t1 (c_tupL (ds := (besideM A' B').map rowD)) B.tuple (y_lcP (rs := (besideM A' B').map rowD) c__law_are_sides_right.nd 17 18 (i_zipT (ds := A'.map rowD) (es := B'.map rowD) rfl B.zip (yv 3) (yv 4)) b__law_are_sides_right_0 ?_ (fun j d r' hd hr' => ?_) ?_)) (told_of bs)) y_int) ?_)
  · rw [List.length_map, zipD_len, List.length_map, List.length_map, beside_len eAB]; omega
  · obtain ⟨d1, d2, e1, e2, rfl⟩ := zipD_at hd
    obtain ⟨ra, ea, rfl⟩ := mat_at e1
    obtain ⟨rb, eb, rfl⟩ := mat_at e2
    obtain ⟨rr, er, rfl⟩ := mat_at hr'
    unfold besideM at er
    rw [List.getElem?_zipWith, ea, eb] at er
    cases er
    have la := mA.wd ra (List.mem_of_getElem? ea)
    have lb := mB.wd rb (List.mem_of_getElem? eb)
    refine ⟨_, _, rfl, fun s H0 C cl fp => y_conv (y_op (o_catT (ds := frs ra) (es := frs rb) (by rw [frs_len, frs_len]; omega)) (yv 17) (yv 18)) ?_⟩
    show _ = PyData.tuple (frs (ra ++ rb))
    unfold frs
    rw [List.map_append]
  · rw [zipD_len, List.length_map, List.length_map]; omega
  show Ks _ p _ _ (dS p r n A' B' (fC x.v) (fC y.v) (fC lo) (fC hi) (fC xs.v) none none none none none none none) _
  refine ks_det (s_set (i := 10) c__law_are_sides_right.nd rfl (.inl rfl) (y_ix (x_tup (v0T xu)) (y_cb1 hto hr (by decide) (y_conv (d' := matD (A' ++ B')) (y_op (o_catT (ds := A'.map rowD) (es := B'.map rowD) (by rw [List.length_map, List.length_map]; omega)) (yv 3) (yv 4)) (by unfold matD; rw [List.map_append])) (told_of bu)) y_int) ?_)
  show Ks _ p _ _ (dS p r n A' B' (fC x.v) (fC y.v) (fC lo) (fC hi) (fC xs.v) (fC xu.v) none none none none none none) _
  have c1 : decide (lo < xs.v) = false := decide_eq_false (Rat.not_lt.mpr (l1 _ vS.1 vS.2))
  have c2 : decide (xu.v < hi) = false := decide_eq_false (Rat.not_lt.mpr (l2 _ vU.1 vU.2))
  refine ks_det (s_if (k := false) (t_w (w_or (k := false) (l := false) (t_conv (t_val (y_cb2 hl hr (by decide) (yv 7) (yv 9) (less_fr (blo.mono (by decide)) (bs.vS.mono (by decide))))) c1) fun _ => w_or1 (t_conv (t_val (y_cb2 hl hr (by decide) (yv 10) (yv 8) (less_fr (bu.vS.mono (by decide)) (bhi.mono (by decide))))) c2))) (fun z => by cases z) fun _ => s_nil ?_)
  show Ks _ p _ _ (dS p r n A' B' (fC x.v) (fC y.v) (fC lo) (fC hi) (fC xs.v) (fC xu.v) none none none none none none) _
  -- again
  have mR := rep_mt (k := 2) mA (by decide) (by rw [lenA]; have : r * (2 * n) ≤ 4 * 8 := Nat.mul_le_mul r4 (by omega); omega)
  have lenR : ∀ k : Nat, (repM k A').length = r := fun k => by unfold repM; rw [List.length_map]; exact lenA
  obtain ⟨xr, br⟩ := mR.told (m := 4) (by rw [lenR]; exact r4)
  have br : Best (repM 2 A') (2 * n) 193 xr := br
  have vR := rep_val mA (by decide) bx br
  refine ks_det (s_set (i := 11) c__law_are_sides_right.nd rfl (.inl rfl) (y_conv (y_ix (x_tup (v0T xr)) (y_cb1 hto hr (by decide) (y_t1 (c_tupL (ds := (repM 2 A').map rowD)) B.tuple (y_lcN (rs := (repM 2 A').map rowD) c__law_are_sides_right.nd 17 (i_tup (ds := A'.map rowD) (yv 3)) b__law_are_sides_right_1 ?_ (fun j d r' hd hr' s H0 C cl fp => ?_) ?_)) (told_of br)) y_int) (by rw [vR])) ?_)
  · rw [List.length_map, List.length_map, lenR, lenA]
  · obtain ⟨ra, ea, rfl⟩ := mat_at hd
    obtain ⟨rr, er, rfl⟩ := mat_at hr'
    unfold repM at er
    rw [List.getElem?_map, ea] at er
    cases er
    have la := mA.wd ra (List.mem_of_getElem? ea)
    refine y_conv (y_op (o_catT (ds := frs ra) (es := frs ra) (by rw [frs_len]; omega)) (yv 17) (yv 17)) ?_
    show _ = PyData.tuple (frs (List.replicate 2 ra).flatten)
    rw [← rep_rows]
    show PyData.tuple (frs ra ++ frs ra) = PyData.tuple (frs ra ++ (frs ra ++ []))
    rw [List.append_nil]
  · rw [List.length_map]; omega
  show Ks _ p _ _ (dS p r n A' B' (fC x.v) (fC y.v) (fC lo) (fC hi) (fC xs.v) (fC xu.v) (fC x.v) none none none none none) _
  -- more
  refine ks_set (i := 12) (m1 := m + 2 + (2 + r * n) + (2 + r * n) + 1) (R := fun c => ∃ a, c = .d (frD a) ∧ More a) c__law_are_sides_right.nd rfl (.inr rfl) (k_fb2 (m1 := m + 2 + (2 + r * n) + (2 + r * n)) (t := 1) (R1 := fun c => c = .d (.list [frD 0, frD (100 / 3), frD (200 / 3)])) ho hr (by decide) (yv 0) (k_y (y_lst (ds := [frD 0, frD (100 / 3), frD (200 / 3)]) (a_cons (y_conv (y_tup2 y_int y_int) rfl) (a_cons (y_conv (y_tup2 y_int y_int) d1003) (a_cons (y_conv (y_tup2 y_int y_int) d2003) a_nil))) (by show 3 ≤ 1000; decide)) rfl) (fun c hc => ⟨_, ⟨[frD 0, frD (100 / 3), frD (200 / 3)], by rw [hc], by show 1 ≤ 3; decide, by show 3 ≤ 1000; decide, rfl, rfl⟩, fun d hd => ?_⟩) rfl (by omega)) (fun c hc => ?_)
  · simp only [List.mem_cons, List.not_mem_nil, or_false] at hd
    rcases hd with e | e | e
    · exact ⟨0, by rw [e], .inl rfl⟩
    · exact ⟨_, by rw [e], .inr (.inl rfl)⟩
    · exact ⟨_, by rw [e], .inr (.inr rfl)⟩
  obtain ⟨a, rfl, ha⟩ := hc
  show Ks _ p _ _ (dS p r n A' B' (fC x.v) (fC y.v) (fC lo) (fC hi) (fC xs.v) (fC xu.v) (fC x.v) (fC a) none none none none) _
  have la := ha.ls
  have x0 := mA.v0 bx
  have lx : Ls x.v := ⟨x0, bx.vS.mono (by decide)⟩
  have mL := line_mt mA ha
  have sL := line_shw (a := a) mA bx
  have lenL : (lineM a A').length = r := by unfold lineM; rw [List.length_map]; exact lenA
  obtain ⟨xl, bl⟩ := mL.told (m := 4) (by rw [lenL]; exact r4)
  have bl : Best (lineM a A') n 225 xl := bl
  have vL : xl.v = a + x.v * thirdQ := value_one bl.sol sL.sol
  have okL := (Pap.ofShw (k := 193) mL sL (by rw [lenL]; omega) (by omega) (by show Bq 3990 (a + x.v * thirdQ); rw [← vL]; exact bl.vS.mono (by decide)) bx.ov).ok (by decide)
  -- line
  refine ks_det (s_set (i := 13) c__law_are_sides_right.nd rfl (.inl rfl) (y_t1 (c_tupL (ds := (lineM a A').map rowD)) B.tuple (y_lcN (rs := (lineM a A').map rowD) c__law_are_sides_right.nd 17 (i_tup (ds := A'.map rowD) (yv 3)) b__law_are_sides_right_2 ?_ (fun j d r' hd hr' s H0 C cl fp => ?_) ?_)) ?_)
  · rw [List.length_map, List.length_map, lenL, lenA]
  · obtain ⟨ra, ea, rfl⟩ := mat_at hd
    obtain ⟨rr, er, rfl⟩ := mat_at hr'
    unfold lineM at er
    rw [List.getElem?_map, ea] at er
    cases er
    have hra := List.mem_of_getElem? ea
    have lra := mA.wd ra hra
    refine y_t1 (c_tupL (ds := frs (ra.map fun q => a + q * thirdQ))) B.tuple (y_lcN (rs := frs (ra.map fun q => a + q * thirdQ)) c__law_are_sides_right.nd 19 (i_tup (ds := frs ra) (yv 17)) (b3_of rfl (show (".0" : Str) ∉ NS by decide +kernel) (.inl rfl)) (by rw [frs_len, frs_len, List.length_map]) (fun j d r' hd hr' s H0 C cl fp => ?_) (by rw [frs_len]; omega))
    · obtain ⟨q, eq, rfl⟩ := frs_at hd
      obtain ⟨q2, eq2, rfl⟩ := frs_at hr'
      rw [List.getElem?_map, eq] at eq2
      cases eq2
      have hq := mA.en ra hra q (List.mem_of_getElem? eq)
      have bq := lq_bq hq
      exact y_cb2 hpl hr (by decide) (yv 12) (y_cb2 hti hr (by decide) (yv 19) (y_conv (y_tup2 y_int y_int) third_d) ⟨q, thirdQ, rfl, ⟨hq.1, bq.mono (by decide)⟩, ls_third, True.intro, rfl⟩) ⟨a, q * thirdQ, rfl, la, ⟨Rat.mul_nonneg hq.1 ls_third.nn, (bq.mul third_bq).mono (by decide)⟩, True.intro, rfl⟩
  · rw [List.length_map]; omega
  show Ks _ p _ _ (dS p r n A' B' (fC x.v) (fC y.v) (fC lo) (fC hi) (fC xs.v) (fC xu.v) (fC x.v) (fC a) (some (.d (matD (lineM a A')))) none none none) _
  -- told, paper
  refine ks_det (s_set (i := 14) c__law_are_sides_right.nd rfl (.inl rfl) (y_cb1 hto hr (by decide) (yv 3) (told_of bx)) ?_)
  show Ks _ p _ _ (dS p r n A' B' (fC x.v) (fC y.v) (fC lo) (fC hi) (fC xs.v) (fC xu.v) (fC x.v) (fC a) (some (.d (matD (lineM a A')))) (some (.d (toldD x))) none none) _
  have bxt : Ls (x.v * thirdQ) := ⟨Rat.mul_nonneg x0 ls_third.nn, (bx.vS.mul third_bq).mono (by decide)⟩
  refine ks_det (s_set (i := 15) c__law_are_sides_right.nd rfl (.inl rfl) (y_conv (d' := toldD ⟨a + x.v * thirdQ, x.rows, x.cols⟩) (y_op (o_catT (ds := [frD (a + x.v * thirdQ)]) (es := [.tuple (frs x.rows), .tuple (frs x.cols)]) (by show 3 ≤ 1000; decide)) (y_tup1 (y_cb2 hpl hr (by decide) (yv 12) (y_cb2 hti hr (by decide) (yv 5) (y_conv (y_tup2 y_int y_int) third_d) ⟨x.v, thirdQ, rfl, lx, ls_third, True.intro, rfl⟩) ⟨a, x.v * thirdQ, rfl, la, bxt, True.intro, rfl⟩)) (y_conv (y_cutT (ds := [frD x.v, .tuple (frs x.rows), .tuple (frs x.cols)]) (yv 14) (p_some y_int) p_none) rfl)) rfl) ?_)
  show Ks _ p _ _ (dS p r n A' B' (fC x.v) (fC y.v) (fC lo) (fC hi) (fC xs.v) (fC xu.v) (fC x.v) (fC a) (some (.d (matD (lineM a A')))) (some (.d (toldD x))) (some (.d (toldD ⟨a + x.v * thirdQ, x.rows, x.cols⟩))) none) _
  have bP : Bq 225 (a + x.v * thirdQ) := by rw [← vL]; exact bl.vS
  refine ks_det (s_if (k := false) (t_w (w_or (k := false) (l := false) (t_conv (t_cmp o_neS (y_reprF hgd hr.units B.repr (yv 11) bx.vS (by decide)) (y_reprF hgd hr.units B.repr (yv 5) bx.vS (by decide)) rfl) (by simp)) fun _ => w_or (k := false) (l := false) (t_conv (t_cmp o_neS (y_reprF hgd hr.units B.repr (y_ix (x_tup (v0T xl)) (y_cb1 hto hr (by decide) (yv 13) (told_of bl)) y_int) bl.vS (by decide)) (y_reprF hgd hr.units B.repr (y_ix (x_tup (v0T ⟨a + x.v * thirdQ, x.rows, x.cols⟩)) (yv 15) y_int) bP (by decide)) rfl) (by rw [vL]; simp)) fun _ => w_or1 (t_conv (t_cmp o_notB (y_cb2 hsh hr (by decide) (yv 13) (yv 15) ⟨_, _, ⟨a + x.v * thirdQ, x.rows, x.cols⟩, rfl, okL, by rw [sL.says mL]⟩) y_bl rfl) rfl))) (fun z => by cases z) fun _ => s_nil ?_)
  show Ks _ p _ _ (dS p r n A' B' (fC x.v) (fC y.v) (fC lo) (fC hi) (fC xs.v) (fC xu.v) (fC x.v) (fC a) (some (.d (matD (lineM a A')))) (some (.d (toldD x))) (some (.d (toldD ⟨a + x.v * thirdQ, x.rows, x.cols⟩))) none) _
  -- great
  have eD : (16 : Int) / (n : Int) = ((16 / n : Nat) : Int) := by rw [Int.natCast_ediv]; rfl
  have k1 : 1 ≤ 16 / n := (Nat.le_div_iff_mul_le n1).mpr (by omega)
  have k16 : 16 / n ≤ 16 := Nat.div_le_self _ _
  have kn : 16 / n * n ≤ 16 := Nat.div_mul_le_self _ _
  have cd : CDivA 16 (n : Int) := ⟨by omega, .inl (by
    rw [Int.natAbs_natCast]
    have := (Nat.log2_lt (k := 3) (show n ≠ 0 by omega)).mpr (by show n < 8; omega)
    omega)⟩
  have mQ := quad_mt mA (by omega)
  have lenQ := quad_len (A := A') mA.m1
  have mG := rep_mt (k := 16 / n) mQ k1 (by rw [lenQ]; omega)
  obtain ⟨xq, bQ⟩ := mQ.told (m := 4) (by omega)
  obtain ⟨xg, bG⟩ := mG.told (m := 4) (by unfold repM; rw [List.length_map]; omega)
  have bQ : Best (quadM A') n 193 xq := bQ
  have bG : Best (repM (16 / n) (quadM A')) (16 / n * n) 193 xg := bG
  have vG := rep_val mQ k1 bQ bG
  have lenF : ((List.replicate 4 (A'.map rowD)).flatten).length = 4 * r := by
    show (List.flatten [A'.map rowD, A'.map rowD, A'.map rowD, A'.map rowD]).length = _
    simp [lenA]
    omega
  have ne : A'.map rowD ≠ [] := fun z => by
    have := congrArg List.length z
    rw [List.length_map, lenA] at this
    simp at this
    omega
  have eQ : KW.cutD (List.replicate 4 (A'.map rowD)).flatten none (some 4) = (quadM A').map rowD := by
    have := cut_take (ds := (List.replicate 4 (A'.map rowD)).flatten) (k := 4) (by rw [lenF]; omega)
    rw [quad_rows] at this
    exact this
  refine ks_det (s_set (i := 16) c__law_are_sides_right.nd rfl (.inl rfl) (y_t1 (c_tupL (ds := (repM (16 / n) (quadM A')).map rowD)) B.tuple (y_lcN (rs := (repM (16 / n) (quadM A')).map rowD) c__law_are_sides_right.nd 17 (i_tup (ds := (quadM A').map rowD) (y_conv (y_cutT (ds := (List.replicate 4 (A'.map rowD)).flatten) (y_op (o_repT (ds := A'.map rowD) (k := 4) ne (by decide) (by decide) (by rw [List.length_map]; omega)) (yv 3) y_int) p_none (p_some y_int)) (congrArg PyData.tuple eQ))) b__law_are_sides_right_4 ?_ (fun j d r' hd hr' s H0 C cl fp => ?_) ?_)) ?_)
  · unfold repM
    rw [List.length_map, List.length_map, List.length_map]
  · obtain ⟨ra, ea, rfl⟩ := mat_at hd
    obtain ⟨rr, er, rfl⟩ := mat_at hr'
    unfold repM at er
    rw [List.getElem?_map, ea] at er
    cases er
    have la := mQ.wd ra (List.mem_of_getElem? ea)
    refine y_conv (y_op (o_repT (ds := frs ra) (k := ((16 / n : Nat) : Int)) (fun z => ?_) (by omega) (by omega) (by rw [frs_len]; omega)) (yv 17) (y_conv (y_op (o_fdiv cd) y_int (yv 2)) (congrArg PyData.int eD))) ?_
    · have := congrArg List.length z
      rw [frs_len, la] at this
      simp at this
      omega
    · rw [Int.toNat_natCast, rep_rows]
      rfl
  · rw [List.length_map, lenQ]; decide
  show Ks _ p _ _ (dS p r n A' B' (fC x.v) (fC y.v) (fC lo) (fC hi) (fC xs.v) (fC xu.v) (fC x.v) (fC a) (some (.d (matD (lineM a A')))) (some (.d (toldD x))) (some (.d (toldD ⟨a + x.v * thirdQ, x.rows, x.cols⟩))) (some (.d (matD (repM (16 / n) (quadM A')))))) _
  refine ks_ret (k_y (R := fun c => c = .d (.bool true)) (y_conv (y_cmp o_eqS (y_reprF hgd hr.units B.repr (y_ix (x_tup (v0T xg)) (y_cb1 hto hr (by decide) (yv 16) (told_of bG)) y_int) bG.vS (by decide)) (y_reprF hgd hr.units B.repr (y_ix (x_tup (v0T xq)) (y_cb1 hto hr (by decide) (y_conv (y_cutT (ds := (List.replicate 4 (A'.map rowD)).flatten) (y_op (o_repT (ds := A'.map rowD) (k := 4) ne (by decide) (by decide) (by rw [List.length_map]; omega)) (yv 3) y_int) p_none (p_some y_int)) (congrArg PyData.tuple eQ)) (told_of bQ)) y_int) bQ.vS (by decide)) rfl) (by rw [vG]; simp)) rfl) fun c hc => ⟨by omega, hc⟩
end
end KP
set_option linter.all false
set_option maxRecDepth 100000
set_option maxHeartbeats 4000000
/-! law -/
namespace KP
open PySem PySem.Spec PyProof.Rows L2 KW K68
section
variable (X : Cx) (p : Addr)
/-- a test that takes -/
def Kt (m m2 : Nat) (e : Expr) (δ : DE) (b : Bool) : Prop := ∀ (σ : L2.St) (H G : Hp) (Q : Bool → Hp → Prop), Ex G H → G p = none → Pot p m H → En X.K G σ δ → (∀ H2 G2, V1 p H G H2 G2 → Pot p m2 H2 → Q b H2) → tWT X e σ H Q
def Kw (m m2 : Nat) (e : Expr) (δ : DE) (b : Bool) : Prop := ∀ (σ : L2.St) (H G : Hp) (Q : Bool → Hp → Prop), Ex G H → G p = none → Pot p m H → En X.K G σ δ → (∀ H2 G2, V1 p H G H2 G2 → Pot p m2 H2 → Q b H2) → tWW X e σ H Q
end
section
variable {X : Cx} {p : Addr} {m m1 m2 : Nat} {e a b : Expr} {es : List Expr} {δ : DE} {pos : Pos}
theorem kt_val {k : Bool} (h : Ky X p m m2 e δ (fun c => c = .d (.bool k))) (he : ∀ whole, isTrue e X.env whole = (do let v ← whole; standAt e.pos; holding [v] (truthy v)) := by intro _; rfl) : Kt X p m m2 e δ k := fun σ H G Q eg gp po en q =>
  leT (pt_val peW he) (h σ H G _ eg gp po en fun v H1 G1 c v1 po1 rc o1 => by
    subst rc
    have o1' : Rp X.K G1 v (.bool k) := o1
    cases o1'
    exact ⟨k, rfl, q H1 G1 v1 po1⟩)
theorem kt_not {k : Bool} (h : Kt X p m m2 e δ k) : Kt X p m m2 (.UnaryOp .Not e pos) δ (!k) := fun σ H G Q eg gp po en q => leT (pt_not ptW) (h σ H G _ eg gp po en fun H1 G1 v1 po1 => q H1 G1 v1 po1)
theorem kt_w {k : Bool} (h : Kw X p m m2 e δ k) : Kt X p m m2 e δ k := fun σ H G Q eg gp po en q => leT pwW.pt (h σ H G Q eg gp po en q)
theorem kw_or1 {k : Bool} (h : Kt X p m m2 a δ k) : Kw X p m m2 (.BoolOp .Or [a] pos) δ k := fun σ H G Q eg gp po en q => leW (pw_or1 ptW) (h σ H G Q eg gp po en q)
theorem kw_or {l : Bool} (h : Kt X p m m1 a δ false) (h2 : Kw X p m1 m2 (.BoolOp .Or (b :: es) pos) δ l) : Kw X p m m2 (.BoolOp .Or (a :: b :: es) pos) δ l := fun σ H G Q eg gp po en q =>
  leW (pw_or ptW pwW) (h σ H G _ eg gp po en fun H1 G1 v1 po1 => h2 σ H1 G1 Q v1.gh (v1.out po gp) po1 (en.mono v1.gg) fun H2 G2 v2 po2 => q H2 G2 (v1.then po1 v2) po2)
/-- a def where no guard runs -/
theorem k_gb {k t : Nat} {x : Str} {q1 : Pos} (C : Gb X.prog X.w X.K X.mg X.base k x (spG X.K t)) (hgd : X.A.guards = some []) (hr : Room k X.A) (h1 : Ey X e δ (.v (.ref p))) (hm2 : m + t = m2) (h1000 : m2 ≤ 1001) (hg : Gl X x := by rfl) (hdb : (x == ("__debug__" : Str)) = false := by decide) (he : starEach [e] X.env = (false, eval e X.env) :: starEach [] X.env := by rfl) : Ky X p m m2 (.Call (.Name x q1) [e] [] pos) δ (fun c => c = .d (.bool true)) := fun σ H G Q eg gp po en q => by
  obtain ⟨f, fd, ps, F, hm, hkp, hb⟩ := C.ex
  refine leE (pe_callG F hgd hr hg hm hkp hb (pa_cons peW pa_nil he) hdb he rfl) (h1 σ H G _ eg en fun v H1 G1 v1 o1 => ?_)
  have o1' : v = V.ref p := o1
  subst o1'
  subst hm2
  exact ⟨p, G1, m, rfl, h1000, v1.gh, (V1.ofVx v1).out po gp, po.keep v1.hh, fun H2 G2 v2 po2 => q _ H2 G2 _ ((V1.ofVx v1).then (po.keep v1.hh) v2) po2 rfl (Rp.bl true)⟩
end
/-- the law's promise -/
def spLaw (K : PySem.W.Frag) : Sp := fun vs H Q _ => ∃ (a : Addr) (ns : List Int), vs = [.ref a] ∧ SqL K H a (ns.map V.int) ∧ ns.length ≤ 63 ∧ ∀ H2 : Hp, Q (.bl true) H2
abbrev NL : List Str := ["script", "place", "pot", "lap"]
theorem rp_intsL {K : PySem.W.Frag} {G : Hp} (ns : List Int) : RpAll K G (ns.map V.int) (ns.map PyData.int) := RpAll.ofInts ns
section
variable {P : Program} {w : World} {K : PySem.W.Frag} {mg : Str → Option Value} {base : Heap}
theorem ok_law {f : Addr} {fd : FuncData} (B : Bl mg) (F : Fun K "law" "law" s_law f fd) (hce : Cb P w K mg base 1 "_law_cells" R_cells) (hpo : Fb P w K mg base 1 "_law_pot" (spPot K)) (h1 : Gb P w K mg base 9 "_law_are_corners_right" (spG K 28)) (h2 : Gb P w K mg base 9 "_law_are_sides_right" (spG K 39)) : FnG P w K mg base 10 f fd ["script"] (spLaw K) := by
  refine Fun.okG F (k := 9) c_law (fun vs H Q E h => ?_) (fun cdv A outer s H vs Q hg0 hr h => ?_)
  · obtain ⟨a, ns, rfl, _⟩ := h
    rfl
  obtain ⟨a, ns, rfl, hS, hl, q⟩ := h
  have hgd : (bX P w K mg base NL "law" s_law f cdv A outer s H E0).A.guards = some [] := guards_deeper hg0
  have hr9 : Room 9 (bX P w K mg base NL "law" s_law f cdv A outer s H E0).A := hr
  have en : En K H (L2.start NL [.ref a]) (stD NL [.f (ns.map .int)]) := start_en (.cons ⟨a, _, rfl, hS, rp_intsL ns⟩ .nil)
  obtain ⟨fp, fdp, psp, Fp, hmp, hkp, hbp⟩ := hpo.ex
  refine ⟨_, pssW, ?_⟩
  have lenC : ((List.range (cellsN (ns.map PyData.int).length)).map fun j => PyData.int (j : Nat)).length = cellsN ns.length := by rw [List.length_map, List.length_range, List.length_map]
  refine leSs (pss_cons psW pssW) (for_run (X := bX P w K mg base NL "law" s_law f cdv A outer s H E0) (g := gName 1) (δ := [some (.f (ns.map .int)), none, none, none]) (ds := (List.range (cellsN (ns.map PyData.int).length)).map fun j => PyData.int (j : Nat))
    (fun i σ' H' G' => Ex G' H' ∧ ∃ o1 o2 o3, En K G' σ' [some (.f (ns.map .int)), o1, o2, o3])
    (i_list (y_cb2 hce hr9 (by decide) (yv 0) y_int ⟨_, rfl, rfl⟩)) (pg_name (i := 1) c_law.nd rfl (.inl rfl)) PassesOwn.never rfl (Ex.refl H) en (fun H1 G1 v1 => ⟨v1.gh, none, none, none, en.mono v1.gg⟩) (fun i σ' H' G' h => h.1) (fun i d σ' H' G' hd hI v H2 G2 v2 r2 N hN => ?_) (fun σ' H' G' hI => ?_))
  · obtain ⟨eg', o1, o2, o3, en'⟩ := hI
    rw [List.getElem?_map] at hd
    have il : i < cellsN ns.length := by
      by_cases z : i < cellsN (ns.map PyData.int).length
      · rwa [List.length_map] at z
      · rw [List.getElem?_eq_none (by rw [List.length_range]; omega)] at hd
        cases hd
    have ed : d = .int (i : Nat) := by
      rw [List.getElem?_range (by rw [List.length_map]; exact il)] at hd
      exact (Option.some.inj hd).symm
    subst ed
    have ic : i < max 1 ns.length ∧ i ≤ 1 := by
      unfold cellsN at il
      split at il <;> omega
    have en2 := (en'.mono v2.gg).set (c := .d (.int (i : Nat))) 1 r2
    refine leSs (pss_cons (ps_set (X := bX P w K mg base NL "law" s_law f cdv A outer s H E0) (i := 2) c_law.nd rfl (.inl rfl) (pe_call (x := ("_law_pot" : Str)) (Fp.mono (show 1 ≤ 9 by decide)) hr9 (by rfl) hmp hkp hbp .nil pass0 paW (by decide) (by rfl) (by rfl)) rfl (.inl rfl)) pssW) ?_
    refine (a_cons (yv 0) (a_cons (yv 1) a_nil)) _ H2 G2 _ v2.gh en2 fun vs3 H3 G3 v3 o3' => ?_
    rw [List.append_nil]
    cases o3' with
    | cons p1 p2 =>
      cases p2 with
      | cons p2 p3 =>
        cases p3
        have p2' : Rp K G3 _ (.int (i : Nat)) := p2
        cases p2'
        refine ⟨G3, _, ns, i, rfl, v3.gh, p1, ic.1, ic.2, fun p H4 G4 v4 hp3 gp4 po4 => ?_⟩
        have v34 := v3.trans v4
        have en4 : En K G4 ((σ'.set 1 (some v)).set 2 (some (.ref p))) [some (.f (ns.map .int)), some (.d (.int (i : Nat))), some (.v (.ref p)), o3] := (en2.mono v34.gg).set (v := .ref p) (c := .v (.ref p)) 2 rfl
        refine leSs (pss_one psW) (for_run (X := bX P w K mg base NL "law" s_law f cdv A outer s H E0) (g := gName 3) (δ := [some (.f (ns.map .int)), some (.d (.int (i : Nat))), some (.v (.ref p)), o3]) (ds := rangeD 0 3)
          (fun j σ' H' G' => Ex G' H' ∧ Ex G4 G' ∧ G' p = none ∧ Pot p (67 * j) H' ∧ ∃ o3, En K G' σ' [some (.f (ns.map .int)), some (.d (.int (i : Nat))), some (.v (.ref p)), o3])
          (i_rangeN (n := 3) rfl rfl B.range y_int (by decide)) (pg_name (i := 3) c_law.nd rfl (.inl rfl)) PassesOwn.never rfl v4.gh en4 (fun H5 G5 v5 => ⟨v5.gh, v5.gg, (V1.ofVx v5).out po4 gp4, po4.keep v5.hh, o3, en4.mono v5.gg⟩) (fun j σ' H' G' h => h.1) (fun j d σ5 H5 G5 hd5 hI5 v H6 G6 v6 r6 N6 hN6 => ?_) (fun σ5 H5 G5 hI5 => ?_))
        · obtain ⟨eg5, gg5, gp5, po5, o5, en5⟩ := hI5
          have j3 := (rangeD_at hd5).1
          have en6 := (en5.mono v6.gg).set (c := .d d) 3 r6
          have po6 := po5.keep v6.hh
          have gp6 := (V1.ofVx v6).out po5 gp5
          refine leSs (pss_one (ps_if ptW pssW pssW)) (kt_w (X := bX P w K mg base NL "law" s_law f cdv A outer s H E0) (p := p) (m := 67 * j) (m2 := 67 * j + 28 + 39) (k := false) (δ := [some (.f (ns.map .int)), some (.d (.int (i : Nat))), some (.v (.ref p)), some (.d d)]) (kw_or (m1 := 67 * j + 28) (kt_not (k := true) (kt_val (k_gb (t := 28) h1 hgd hr9 (yv 2) rfl (by omega)))) (kw_or1 (kt_not (k := true) (kt_val (k_gb (t := 39) h2 hgd hr9 (yv 2) rfl (by omega)))))) _ H6 G6 _ v6.gh gp6 po6 en6 fun H7 G7 v7 po7 => ?_)
          refine leSs pss_nil (hN6 _ H7 G7 v7.gg ⟨v7.gh, gg5.trans (v6.gg.trans v7.gg), v7.out po6 gp6, po7.up (by omega), _, en6.mono v7.gg⟩)
        · obtain ⟨eg5, gg5, gp5, po5, o5, en5⟩ := hI5
          exact hN _ H5 G5 (v34.gg.trans gg5) ⟨eg5, _, _, _, en5⟩
  · obtain ⟨eg', o1, o2, o3, en'⟩ := hI
    refine leSs (pss_one (ps_ret peW)) ?_
    exact y_bl (X := bX P w K mg base NL "law" s_law f cdv A outer s H E0) σ' H' G' _ eg' en' fun v H2 G2 v2 o2 => by
      have o2' : Rp K G2 v (.bool true) := o2
      cases o2'
      exact q H2
end
end KP
set_option linter.all false
set_option maxRecDepth 100000
set_option maxHeartbeats 4000000
/-! the law called where no guard runs -/
namespace KP
open PySem PySem.Spec PyProof.Rows L2 KW K68
section
variable {P : Program} {w : World} {K : PySem.W.Frag} {mg mb : Str → Option Value} {k : Nat} {fa a : Addr} {fd : FuncData} {x : Str} {sp : Sp} {s1 : Shared} {us : List Value} {H : Hp}
/-- what is wanted of the call -/
def Well (s1 : Shared) (r : Result) (s2 : Shared) : Prop := r = .ok (.ret (.bool true)) ∧ OldK s1.heap s2.heap ∧ s2.os = s1.os ∧ AllBare s2.gens
theorem begin_G (KX : K.In s1.heap) (hmain : s1.heap.Ns mainGlobals mg) (hbt : s1.heap.Ns builtinsNs mb) (hboot : ∀ y : Str, y ≠ "__name__" → mb y = bootBuiltins y) (hno : s1.heap.NoLimit) (hgen : s1.gens = #[]) (hobj : s1.heap.get? a = some { cls := .type "list", data := .seq us.toArray })
    (on : ∀ b u, H b = some u → b = a ∧ K.lookup a = none ∧ ∃ o xs, u = .frz o (.lst xs)) (hok : HOk P w H s1.heap) (hr : Room k callerA) (F : ∀ base : Heap, K.In base → base.Ns mainGlobals mg → FnG P w K mg base k fa fd [x] sp)
    (hbind : ∀ (s : Shared) (u : Value), BindsTo s fd ⟨[u], []⟩ [(x, u)]) (hsp : sp [.ref a] H (fun v _ => v = .bl true) E0) : codeAny (model P w) callerA (.call (.ref fa) ⟨[.ref a], []⟩) (Well s1) s1 := by
  have off : ∀ b, b ≠ a → H b = none := fun b nb => by
    cases z : H b with
    | none => rfl
    | some u => exact absurd (on b u z).1 nb
  -- a namespace is not the script
  have spaces : ∀ {b : Addr} {m : Str → Option Value}, s1.heap.Ns b m → (hidT s1.heap H).Ns b m := by
    rintro b m ⟨o, es, ep, e, dd, rr⟩
    refine ⟨o, es, ep, hidT_get e (off b fun z => ?_), dd, rr⟩
    subst z
    have e2 := Option.some.inj (e.symm.trans hobj)
    rw [e2] at dd
    exact nomatch dd
  have inB : K.In (hidT s1.heap H) := fun b o e => hidT_get (KX b o e) (by
    cases z : H b with
    | none => rfl
    | some u =>
      obtain ⟨eb, kn, _⟩ := on b u z
      subst eb
      rw [kn] at e
      cases e)
  obtain ⟨mc, c1, c2⟩ := hno
  have md : Mod K mg (hidT s1.heap H) := ⟨inB, spaces hmain, ⟨mb, spaces hbt, hboot⟩, mc, spaces c1, c2⟩
  have ev : Env0 P w K mg (hidT s1.heap H) callerA [] s1 H := { frames := rfl, mod := md, bs := fun b o e => of_hidT e, bsz := Nat.le_of_eq (hidT_size _ _), funs := trivial, frf := fun b hb => (List.not_mem_nil hb).elim, hok := hok, bare := .of_eq hgen }
  have call := (F (hidT s1.heap H) inB (spaces hmain)).run callerA [] s1 H ⟨[.ref a], []⟩ [.ref a] [.ref a] (fun v _ => v = .bl true) rfl hr ev (hbind s1 (.ref a)) (.cons rfl .nil) hsp
  refine codeAny_mono call fun r s2 hq => ?_
  match r, hq with
  | .error e, hq => exact False.elim hq
  | .ok .next, hq => exact False.elim hq
  | .ok .brk, hq => exact False.elim hq
  | .ok .cont, hq => exact False.elim hq
  | .ok (.ret u), hq =>
    obtain ⟨v, H2, hos, hbare, un, hok2, rv, rfl⟩ := hq
    have ru : u = Value.bool true := rv
    refine ⟨by rw [ru], OldK.of_keep fun b o e => ?_, hos, hbare⟩
    by_cases z : H b = none
    · exact un.keep b o e z (fun y => (List.not_mem_nil y).elim) (fun y => (List.not_mem_nil y).elim)
    · obtain ⟨u', hu⟩ := Option.ne_none_iff_exists'.mp z
      obtain ⟨_, _, ob, xs, rfl⟩ := on b u' hu
      have g1 := (hok b _ hu).1
      have g2 := (hok2 b _ (un.frzs b ob _ hu)).1
      rw [← Option.some.inj (g1.symm.trans e)]
      exact g2
/-- from the script as it is handed in -/
theorem law_G {ns : List Int} (KX : K.In s1.heap) (hmain : s1.heap.Ns mainGlobals mg) (hbt : s1.heap.Ns builtinsNs mb) (hboot : ∀ y : Str, y ≠ "__name__" → mb y = bootBuiltins y) (hno : s1.heap.NoLimit) (hgen : s1.gens = #[]) (hobj : s1.heap.get? a = some { cls := .type "list", data := .seq us.toArray }) (hints : IntsAre us ns) (hlen : ns.length ≤ 63)
    (hr : Room k callerA) (F : ∀ base : Heap, K.In base → base.Ns mainGlobals mg → FnG P w K mg base k fa fd [x] sp) (hbind : ∀ (s : Shared) (u : Value), BindsTo s fd ⟨[u], []⟩ [(x, u)]) (hsp : ∀ H : Hp, SqL K H a (ns.map V.int) → sp [.ref a] H (fun v _ => v = .bl true) E0) : codeAny (model P w) callerA (.call (.ref fa) ⟨[.ref a], []⟩) (Well s1) s1 := by
  have rv := vals_ints hints
  have sz : (63 : Nat) ≤ sizeLine := by decide
  have lv := hints.length
  by_cases hk : K.lookup a = none
  · let H : Hp := fun b => if b = a then some (.frz { cls := .type "list", data := .seq us.toArray } (.lst (ns.map V.int))) else none
    have Ha : H a = some (.frz { cls := .type "list", data := .seq us.toArray } (.lst (ns.map V.int))) := if_pos rfl
    have Hn : ∀ b u, H b = some u → b = a ∧ u = .frz { cls := .type "list", data := .seq us.toArray } (.lst (ns.map V.int)) := fun b u e => by
      by_cases z : b = a
      · subst z
        exact ⟨rfl, (Option.some.inj (Ha.symm.trans e)).symm⟩
      · have : H b = none := if_neg z
        rw [this] at e
        cases e
    refine begin_G (H := H) KX hmain hbt hboot hno hgen hobj (fun b u e => ⟨(Hn b u e).1, hk, _, _, (Hn b u e).2⟩) (fun b u e => ?_) hr F hbind (hsp H (.inl (.inr ⟨_, Ha⟩)))
    obtain ⟨rfl, rfl⟩ := Hn b u e
    exact ⟨hobj, by rw [List.length_map]; omega, us, _, rv, hobj⟩
  · obtain ⟨o, ho⟩ := Option.ne_none_iff_exists'.mp hk
    have eo := Option.some.inj ((KX a o ho).symm.trans hobj)
    subst eo
    have no : ∀ b (u : HO), (fun _ => none : Hp) b = some u → False := fun b u e => nomatch (e : (none : Option HO) = some u)
    exact begin_G (H := fun _ => none) KX hmain hbt hboot hno hgen hobj (fun b u e => (no b u e).elim) (fun b u e => (no b u e).elim) hr F hbind (hsp _ (.inr ⟨_, us.toArray, _, ho, rfl, rfl, rfl, by rw [List.size_toArray, lv]; omega, by simpa using rv⟩))
end
theorem walk_G {l : PySem.W.OpenLaw} {k : Nat} {q : Program} {loose : List Str} {XP : (Str → Option Value) → Heap → Prop} {YP : World → Heap → Prop} {d : DefRec} {K : Params → PySem.W.Frag} (hn : l.most = some 63) (hdf : d.params.defaults = []) (hr : Room k callerA) (hY : ∀ (w : World) (h : Heap), YP w h → (K w.params).In h)
    (F : ∀ (w : World) (mg : Str → Option Value) (fa : Addr) (h : Heap), (K w.params).In h → h.Ns mainGlobals mg → mg d.name = some (.ref fa) → ∃ fd : FuncData, (∀ (s : Shared) (u : Value), BindsTo s fd ⟨[u], []⟩ [("script", u)]) ∧ ∀ base : Heap, (K w.params).In base → base.Ns mainGlobals mg → FnG l.prog w (K w.params) mg base k fa fd ["script"] (spLaw (K w.params))) :
    PySem.W.WalkO q loose XP YP l.row.toRowW d [] (fun f vs => PySem.call f vs) := by
  refine Att.attach_call hn hdf fun w _ s1 mg _ fa _ _ _ _ a _ _ G Y _ _ _ hmg hobj hints hlen hg => ?_
  have KX := hY w _ Y
  obtain ⟨fd, hb, hF⟩ := F w mg fa _ KX G.T.g hmg
  exact law_G KX G.T.g G.T.b G.T.builtins G.T.nolimit hg hobj hints hlen hr hF hb fun H hS => ⟨a, _, rfl, hS, hlen, fun _ => rfl⟩
end KP
set_option linter.all false
set_option maxRecDepth 100000
set_option maxHeartbeats 4000000
/-! what the top leaves; the end -/
namespace KP
open PySem PySem.Spec PyProof.Rows L2 KW K68
section
variable {K : PySem.W.Frag} {h : Heap} {mg : Str → Option Value} {C f : Addr} {oc kV doc pm cdv ct : Value} {od an : Option Addr} {osl : Array (Option Value)}
theorem use {A B : Prop} (a : A) (g : A → B) : B := g a
theorem has_of {x : Str} {st : Stmt} {ps : List Str} (X : K.In h) (G : h.Ns mainGlobals mg) (a : PySem.W.nsIn K mainGlobals x = some (some (.ref f))) (l : K.lookup f = some ⟨oc, od, .func (PySem.W.fnOf x x (defArgs st) (defBody st) (defScope st) .none kV doc pm an cdv ct), osl⟩) (c : PySem.W.codeIn K cdv x = true) (k : PySem.W.keepIn K (.ref f) = true)
    (b : ∀ {f : Addr} {fd : FuncData}, Fun K x x st f fd → Binds K fd ps []) : Has K mg x st ps := ⟨f, _, PySem.W.mg_of X G a, fun_mk l c k, b (fun_mk l c k)⟩
theorem hasM_of {m qual : Str} {st : Stmt} {ps : List Str} (a : PySem.W.findIn K (.ref C) m = some (some (.ref f))) (i : PySem.W.isFn K (.ref f) = true) (l : K.lookup f = some ⟨oc, od, .func (PySem.W.fnOf m qual (defArgs st) (defBody st) (defScope st) .none kV doc pm an cdv ct), osl⟩) (c : PySem.W.codeIn K cdv qual = true) (k : PySem.W.keepIn K (.ref f) = true)
    (b : ∀ {f : Addr} {fd : FuncData}, Fun K m qual st f fd → Binds K fd ps []) : HasM K C m qual st ps := ⟨f, _, ⟨a, i, k⟩, fun_mk l c k, b (fun_mk l c k)⟩
theorem gc_tup {x : Str} {i j : Int} {t1 t2 : Tok} {n : Nat} (X : K.In h) (G : h.Ns mainGlobals mg) (a : PySem.W.nsIn K mainGlobals x = some (some (.ref f))) (l : K.lookup f = some ⟨.type "tuple", od, .seq #[.int i t1, .int j t2] n, osl⟩) : GC K mg x (.tuple [.int i, .int j]) := ⟨.ref f, _, PySem.W.mg_of X G a, rfl, fun G => .tup (xs := [.int i, .int j]) (.inr ⟨_, _, _, l, rfl, rfl, by show 2 ≤ sizeLine; decide, .cons ⟨_, rfl⟩ (.cons ⟨_, rfl⟩ .nil)⟩) (.cons (.int _) (.cons (.int _) .nil))⟩
theorem gc_int {x : Str} {i : Int} {t1 : Tok} (X : K.In h) (G : h.Ns mainGlobals mg) (a : PySem.W.nsIn K mainGlobals x = some (some (.int i t1))) : GC K mg x (.int i) := ⟨.int i, _, PySem.W.mg_of X G a, ⟨_, rfl⟩, fun G => .int _⟩
theorem no_of {x : Str} (X : K.In h) (G : h.Ns mainGlobals mg) (a : PySem.W.nsIn K mainGlobals x = some none) : mg x = none := PySem.W.mg_none_of X G a
theorem glo_of {x : Str} (X : K.In h) (G : h.Ns mainGlobals mg) (a : PySem.W.nsIn K mainGlobals x = some (some (.ref f))) : mg x = some (.ref f) := PySem.W.mg_of X G a
theorem h_is_integer (X : K.In h) (G : h.Ns mainGlobals mg) (a : PySem.W.nsIn K mainGlobals "is_integer" = some (some (.ref f))) (l : K.lookup f = some ⟨oc, od, .func (PySem.W.fnOf "is_integer" "is_integer" (defArgs s_is_integer) (defBody s_is_integer) (defScope s_is_integer) .none kV doc pm an cdv ct), osl⟩) (c : PySem.W.codeIn K cdv "is_integer" = true) (k : PySem.W.keepIn K (.ref f) = true) : Has K mg "is_integer" s_is_integer ["value"] := has_of X G a l c k fun F => F.binds fun _ _ _ _ _ _ us hl => match us, hl with | [_], _ => rfl
theorem h_common (X : K.In h) (G : h.Ns mainGlobals mg) (a : PySem.W.nsIn K mainGlobals "common" = some (some (.ref f))) (l : K.lookup f = some ⟨oc, od, .func (PySem.W.fnOf "common" "common" (defArgs s_common) (defBody s_common) (defScope s_common) .none kV doc pm an cdv ct), osl⟩) (c : PySem.W.codeIn K cdv "common" = true) (k : PySem.W.keepIn K (.ref f) = true) : Has K mg "common" s_common ["one", "other"] := has_of X G a l c k fun F => F.binds fun _ _ _ _ _ _ us hl => match us, hl with | [_, _], _ => rfl
theorem h_part (X : K.In h) (G : h.Ns mainGlobals mg) (a : PySem.W.nsIn K mainGlobals "part" = some (some (.ref f))) (l : K.lookup f = some ⟨oc, od, .func (PySem.W.fnOf "part" "part" (defArgs s_part) (defBody s_part) (defScope s_part) .none kV doc pm an cdv ct), osl⟩) (c : PySem.W.codeIn K cdv "part" = true) (k : PySem.W.keepIn K (.ref f) = true) : Has K mg "part" s_part ["top", "low"] := has_of X G a l c k fun F => F.binds fun _ _ _ _ _ _ us hl => match us, hl with | [_, _], _ => rfl
theorem h_plus (X : K.In h) (G : h.Ns mainGlobals mg) (a : PySem.W.nsIn K mainGlobals "plus" = some (some (.ref f))) (l : K.lookup f = some ⟨oc, od, .func (PySem.W.fnOf "plus" "plus" (defArgs s_plus) (defBody s_plus) (defScope s_plus) .none kV doc pm an cdv ct), osl⟩) (c : PySem.W.codeIn K cdv "plus" = true) (k : PySem.W.keepIn K (.ref f) = true) : Has K mg "plus" s_plus ["one", "other"] := has_of X G a l c k fun F => F.binds fun _ _ _ _ _ _ us hl => match us, hl with | [_, _], _ => rfl
theorem h_minus (X : K.In h) (G : h.Ns mainGlobals mg) (a : PySem.W.nsIn K mainGlobals "minus" = some (some (.ref f))) (l : K.lookup f = some ⟨oc, od, .func (PySem.W.fnOf "minus" "minus" (defArgs s_minus) (defBody s_minus) (defScope s_minus) .none kV doc pm an cdv ct), osl⟩) (c : PySem.W.codeIn K cdv "minus" = true) (k : PySem.W.keepIn K (.ref f) = true) : Has K mg "minus" s_minus ["one", "other"] := has_of X G a l c k fun F => F.binds fun _ _ _ _ _ _ us hl => match us, hl with | [_, _], _ => rfl
theorem h_times (X : K.In h) (G : h.Ns mainGlobals mg) (a : PySem.W.nsIn K mainGlobals "times" = some (some (.ref f))) (l : K.lookup f = some ⟨oc, od, .func (PySem.W.fnOf "times" "times" (defArgs s_times) (defBody s_times) (defScope s_times) .none kV doc pm an cdv ct), osl⟩) (c : PySem.W.codeIn K cdv "times" = true) (k : PySem.W.keepIn K (.ref f) = true) : Has K mg "times" s_times ["one", "other"] := has_of X G a l c k fun F => F.binds fun _ _ _ _ _ _ us hl => match us, hl with | [_, _], _ => rfl
theorem h_divided (X : K.In h) (G : h.Ns mainGlobals mg) (a : PySem.W.nsIn K mainGlobals "divided" = some (some (.ref f))) (l : K.lookup f = some ⟨oc, od, .func (PySem.W.fnOf "divided" "divided" (defArgs s_divided) (defBody s_divided) (defScope s_divided) .none kV doc pm an cdv ct), osl⟩) (c : PySem.W.codeIn K cdv "divided" = true) (k : PySem.W.keepIn K (.ref f) = true) : Has K mg "divided" s_divided ["one", "other"] := has_of X G a l c k fun F => F.binds fun _ _ _ _ _ _ us hl => match us, hl with | [_, _], _ => rfl
theorem h_is_less (X : K.In h) (G : h.Ns mainGlobals mg) (a : PySem.W.nsIn K mainGlobals "is_less" = some (some (.ref f))) (l : K.lookup f = some ⟨oc, od, .func (PySem.W.fnOf "is_less" "is_less" (defArgs s_is_less) (defBody s_is_less) (defScope s_is_less) .none kV doc pm an cdv ct), osl⟩) (c : PySem.W.codeIn K cdv "is_less" = true) (k : PySem.W.keepIn K (.ref f) = true) : Has K mg "is_less" s_is_less ["one", "other"] := has_of X G a l c k fun F => F.binds fun _ _ _ _ _ _ us hl => match us, hl with | [_, _], _ => rfl
theorem h_sum_of (X : K.In h) (G : h.Ns mainGlobals mg) (a : PySem.W.nsIn K mainGlobals "sum_of" = some (some (.ref f))) (l : K.lookup f = some ⟨oc, od, .func (PySem.W.fnOf "sum_of" "sum_of" (defArgs s_sum_of) (defBody s_sum_of) (defScope s_sum_of) .none kV doc pm an cdv ct), osl⟩) (c : PySem.W.codeIn K cdv "sum_of" = true) (k : PySem.W.keepIn K (.ref f) = true) : Has K mg "sum_of" s_sum_of ["some"] := has_of X G a l c k fun F => F.binds fun _ _ _ _ _ _ us hl => match us, hl with | [_], _ => rfl
theorem h_least_of (X : K.In h) (G : h.Ns mainGlobals mg) (a : PySem.W.nsIn K mainGlobals "least_of" = some (some (.ref f))) (l : K.lookup f = some ⟨oc, od, .func (PySem.W.fnOf "least_of" "least_of" (defArgs s_least_of) (defBody s_least_of) (defScope s_least_of) .none kV doc pm an cdv ct), osl⟩) (c : PySem.W.codeIn K cdv "least_of" = true) (k : PySem.W.keepIn K (.ref f) = true) : Has K mg "least_of" s_least_of ["some"] := has_of X G a l c k fun F => F.binds fun _ _ _ _ _ _ us hl => match us, hl with | [_], _ => rfl
theorem h_greatest_of (X : K.In h) (G : h.Ns mainGlobals mg) (a : PySem.W.nsIn K mainGlobals "greatest_of" = some (some (.ref f))) (l : K.lookup f = some ⟨oc, od, .func (PySem.W.fnOf "greatest_of" "greatest_of" (defArgs s_greatest_of) (defBody s_greatest_of) (defScope s_greatest_of) .none kV doc pm an cdv ct), osl⟩) (c : PySem.W.codeIn K cdv "greatest_of" = true) (k : PySem.W.keepIn K (.ref f) = true) : Has K mg "greatest_of" s_greatest_of ["some"] := has_of X G a l c k fun F => F.binds fun _ _ _ _ _ _ us hl => match us, hl with | [_], _ => rfl
theorem h_is_fraction (X : K.In h) (G : h.Ns mainGlobals mg) (a : PySem.W.nsIn K mainGlobals "is_fraction" = some (some (.ref f))) (l : K.lookup f = some ⟨oc, od, .func (PySem.W.fnOf "is_fraction" "is_fraction" (defArgs s_is_fraction) (defBody s_is_fraction) (defScope s_is_fraction) .none kV doc pm an cdv ct), osl⟩) (c : PySem.W.codeIn K cdv "is_fraction" = true) (k : PySem.W.keepIn K (.ref f) = true) : Has K mg "is_fraction" s_is_fraction ["value"] := has_of X G a l c k fun F => F.binds fun _ _ _ _ _ _ us hl => match us, hl with | [_], _ => rfl
theorem h_is_share (X : K.In h) (G : h.Ns mainGlobals mg) (a : PySem.W.nsIn K mainGlobals "is_share" = some (some (.ref f))) (l : K.lookup f = some ⟨oc, od, .func (PySem.W.fnOf "is_share" "is_share" (defArgs s_is_share) (defBody s_is_share) (defScope s_is_share) .none kV doc pm an cdv ct), osl⟩) (c : PySem.W.codeIn K cdv "is_share" = true) (k : PySem.W.keepIn K (.ref f) = true) : Has K mg "is_share" s_is_share ["value", "many"] := has_of X G a l c k fun F => F.binds fun _ _ _ _ _ _ us hl => match us, hl with | [_, _], _ => rfl
theorem h_mean_of (X : K.In h) (G : h.Ns mainGlobals mg) (a : PySem.W.nsIn K mainGlobals "mean_of" = some (some (.ref f))) (l : K.lookup f = some ⟨oc, od, .func (PySem.W.fnOf "mean_of" "mean_of" (defArgs s_mean_of) (defBody s_mean_of) (defScope s_mean_of) .none kV doc pm an cdv ct), osl⟩) (c : PySem.W.codeIn K cdv "mean_of" = true) (k : PySem.W.keepIn K (.ref f) = true) : Has K mg "mean_of" s_mean_of ["shares", "some"] := has_of X G a l c k fun F => F.binds fun _ _ _ _ _ _ us hl => match us, hl with | [_, _], _ => rfl
theorem h_is_row (X : K.In h) (G : h.Ns mainGlobals mg) (a : PySem.W.nsIn K mainGlobals "is_row" = some (some (.ref f))) (l : K.lookup f = some ⟨oc, od, .func (PySem.W.fnOf "is_row" "is_row" (defArgs s_is_row) (defBody s_is_row) (defScope s_is_row) .none kV doc pm an cdv ct), osl⟩) (c : PySem.W.codeIn K cdv "is_row" = true) (k : PySem.W.keepIn K (.ref f) = true) : Has K mg "is_row" s_is_row ["value", "many"] := has_of X G a l c k fun F => F.binds fun _ _ _ _ _ _ us hl => match us, hl with | [_, _], _ => rfl
theorem h_is_matrix (X : K.In h) (G : h.Ns mainGlobals mg) (a : PySem.W.nsIn K mainGlobals "is_matrix" = some (some (.ref f))) (l : K.lookup f = some ⟨oc, od, .func (PySem.W.fnOf "is_matrix" "is_matrix" (defArgs s_is_matrix) (defBody s_is_matrix) (defScope s_is_matrix) .none kV doc pm an cdv ct), osl⟩) (c : PySem.W.codeIn K cdv "is_matrix" = true) (k : PySem.W.keepIn K (.ref f) = true) : Has K mg "is_matrix" s_is_matrix ["value"] := has_of X G a l c k fun F => F.binds fun _ _ _ _ _ _ us hl => match us, hl with | [_], _ => rfl
theorem h_check_matrix (X : K.In h) (G : h.Ns mainGlobals mg) (a : PySem.W.nsIn K mainGlobals "check_matrix" = some (some (.ref f))) (l : K.lookup f = some ⟨oc, od, .func (PySem.W.fnOf "check_matrix" "check_matrix" (defArgs s_check_matrix) (defBody s_check_matrix) (defScope s_check_matrix) .none kV doc pm an cdv ct), osl⟩) (c : PySem.W.codeIn K cdv "check_matrix" = true) (k : PySem.W.keepIn K (.ref f) = true) : Has K mg "check_matrix" s_check_matrix ["matrix"] := has_of X G a l c k fun F => F.binds fun _ _ _ _ _ _ us hl => match us, hl with | [_], _ => rfl
theorem h_columns_of (X : K.In h) (G : h.Ns mainGlobals mg) (a : PySem.W.nsIn K mainGlobals "columns_of" = some (some (.ref f))) (l : K.lookup f = some ⟨oc, od, .func (PySem.W.fnOf "columns_of" "columns_of" (defArgs s_columns_of) (defBody s_columns_of) (defScope s_columns_of) .none kV doc pm an cdv ct), osl⟩) (c : PySem.W.codeIn K cdv "columns_of" = true) (k : PySem.W.keepIn K (.ref f) = true) : Has K mg "columns_of" s_columns_of ["matrix"] := has_of X G a l c k fun F => F.binds fun _ _ _ _ _ _ us hl => match us, hl with | [_], _ => rfl
theorem h_less_times (X : K.In h) (G : h.Ns mainGlobals mg) (a : PySem.W.nsIn K mainGlobals "less_times" = some (some (.ref f))) (l : K.lookup f = some ⟨oc, od, .func (PySem.W.fnOf "less_times" "less_times" (defArgs s_less_times) (defBody s_less_times) (defScope s_less_times) .none kV doc pm an cdv ct), osl⟩) (c : PySem.W.codeIn K cdv "less_times" = true) (k : PySem.W.keepIn K (.ref f) = true) : Has K mg "less_times" s_less_times ["row", "other", "column"] := has_of X G a l c k fun F => F.binds fun _ _ _ _ _ _ us hl => match us, hl with | [_, _, _], _ => rfl
theorem h_solved (X : K.In h) (G : h.Ns mainGlobals mg) (a : PySem.W.nsIn K mainGlobals "solved" = some (some (.ref f))) (l : K.lookup f = some ⟨oc, od, .func (PySem.W.fnOf "solved" "solved" (defArgs s_solved) (defBody s_solved) (defScope s_solved) .none kV doc pm an cdv ct), osl⟩) (c : PySem.W.codeIn K cdv "solved" = true) (k : PySem.W.keepIn K (.ref f) = true) : Has K mg "solved" s_solved ["matrix"] := has_of X G a l c k fun F => F.binds fun _ _ _ _ _ _ us hl => match us, hl with | [_], _ => rfl
theorem h_matrix_told (X : K.In h) (G : h.Ns mainGlobals mg) (a : PySem.W.nsIn K mainGlobals "matrix_told" = some (some (.ref f))) (l : K.lookup f = some ⟨oc, od, .func (PySem.W.fnOf "matrix_told" "matrix_told" (defArgs s_matrix_told) (defBody s_matrix_told) (defScope s_matrix_told) .none kV doc pm an cdv ct), osl⟩) (c : PySem.W.codeIn K cdv "matrix_told" = true) (k : PySem.W.keepIn K (.ref f) = true) : Has K mg "matrix_told" s_matrix_told ["matrix"] := has_of X G a l c k fun F => F.binds fun _ _ _ _ _ _ us hl => match us, hl with | [_], _ => rfl
theorem h_shows_matrix (X : K.In h) (G : h.Ns mainGlobals mg) (a : PySem.W.nsIn K mainGlobals "shows_matrix" = some (some (.ref f))) (l : K.lookup f = some ⟨oc, od, .func (PySem.W.fnOf "shows_matrix" "shows_matrix" (defArgs s_shows_matrix) (defBody s_shows_matrix) (defScope s_shows_matrix) .none kV doc pm an cdv ct), osl⟩) (c : PySem.W.codeIn K cdv "shows_matrix" = true) (k : PySem.W.keepIn K (.ref f) = true) : Has K mg "shows_matrix" s_shows_matrix ["matrix", "value"] := has_of X G a l c k fun F => F.binds fun _ _ _ _ _ _ us hl => match us, hl with | [_, _], _ => rfl
theorem h__law_pot (X : K.In h) (G : h.Ns mainGlobals mg) (a : PySem.W.nsIn K mainGlobals "_law_pot" = some (some (.ref f))) (l : K.lookup f = some ⟨oc, od, .func (PySem.W.fnOf "_law_pot" "_law_pot" (defArgs s__law_pot) (defBody s__law_pot) (defScope s__law_pot) .none kV doc pm an cdv ct), osl⟩) (c : PySem.W.codeIn K cdv "_law_pot" = true) (k : PySem.W.keepIn K (.ref f) = true) : Has K mg "_law_pot" s__law_pot ["script", "place"] := has_of X G a l c k fun F => F.binds fun _ _ _ _ _ _ us hl => match us, hl with | [_, _], _ => rfl
theorem h__law_take (X : K.In h) (G : h.Ns mainGlobals mg) (a : PySem.W.nsIn K mainGlobals "_law_take" = some (some (.ref f))) (l : K.lookup f = some ⟨oc, od, .func (PySem.W.fnOf "_law_take" "_law_take" (defArgs s__law_take) (defBody s__law_take) (defScope s__law_take) .none kV doc pm an cdv ct), osl⟩) (c : PySem.W.codeIn K cdv "_law_take" = true) (k : PySem.W.keepIn K (.ref f) = true) : Has K mg "_law_take" s__law_take ["pot", "upto"] := has_of X G a l c k fun F => F.binds fun _ _ _ _ _ _ us hl => match us, hl with | [_, _], _ => rfl
theorem h__law_of (X : K.In h) (G : h.Ns mainGlobals mg) (a : PySem.W.nsIn K mainGlobals "_law_of" = some (some (.ref f))) (l : K.lookup f = some ⟨oc, od, .func (PySem.W.fnOf "_law_of" "_law_of" (defArgs s__law_of) (defBody s__law_of) (defScope s__law_of) .none kV doc pm an cdv ct), osl⟩) (c : PySem.W.codeIn K cdv "_law_of" = true) (k : PySem.W.keepIn K (.ref f) = true) : Has K mg "_law_of" s__law_of ["pot", "some"] := has_of X G a l c k fun F => F.binds fun _ _ _ _ _ _ us hl => match us, hl with | [_, _], _ => rfl
theorem h__law_cells (X : K.In h) (G : h.Ns mainGlobals mg) (a : PySem.W.nsIn K mainGlobals "_law_cells" = some (some (.ref f))) (l : K.lookup f = some ⟨oc, od, .func (PySem.W.fnOf "_law_cells" "_law_cells" (defArgs s__law_cells) (defBody s__law_cells) (defScope s__law_cells) .none kV doc pm an cdv ct), osl⟩) (c : PySem.W.codeIn K cdv "_law_cells" = true) (k : PySem.W.keepIn K (.ref f) = true) : Has K mg "_law_cells" s__law_cells ["script", "limit"] := has_of X G a l c k fun F => F.binds fun _ _ _ _ _ _ us hl => match us, hl with | [_, _], _ => rfl
theorem h__law_short (X : K.In h) (G : h.Ns mainGlobals mg) (a : PySem.W.nsIn K mainGlobals "_law_short" = some (some (.ref f))) (l : K.lookup f = some ⟨oc, od, .func (PySem.W.fnOf "_law_short" "_law_short" (defArgs s__law_short) (defBody s__law_short) (defScope s__law_short) .none kV doc pm an cdv ct), osl⟩) (c : PySem.W.codeIn K cdv "_law_short" = true) (k : PySem.W.keepIn K (.ref f) = true) : Has K mg "_law_short" s__law_short ["top", "low"] := has_of X G a l c k fun F => F.binds fun _ _ _ _ _ _ us hl => match us, hl with | [_, _], _ => rfl
theorem h__law_plus (X : K.In h) (G : h.Ns mainGlobals mg) (a : PySem.W.nsIn K mainGlobals "_law_plus" = some (some (.ref f))) (l : K.lookup f = some ⟨oc, od, .func (PySem.W.fnOf "_law_plus" "_law_plus" (defArgs s__law_plus) (defBody s__law_plus) (defScope s__law_plus) .none kV doc pm an cdv ct), osl⟩) (c : PySem.W.codeIn K cdv "_law_plus" = true) (k : PySem.W.keepIn K (.ref f) = true) : Has K mg "_law_plus" s__law_plus ["one", "other"] := has_of X G a l c k fun F => F.binds fun _ _ _ _ _ _ us hl => match us, hl with | [_, _], _ => rfl
theorem h__law_times (X : K.In h) (G : h.Ns mainGlobals mg) (a : PySem.W.nsIn K mainGlobals "_law_times" = some (some (.ref f))) (l : K.lookup f = some ⟨oc, od, .func (PySem.W.fnOf "_law_times" "_law_times" (defArgs s__law_times) (defBody s__law_times) (defScope s__law_times) .none kV doc pm an cdv ct), osl⟩) (c : PySem.W.codeIn K cdv "_law_times" = true) (k : PySem.W.keepIn K (.ref f) = true) : Has K mg "_law_times" s__law_times ["one", "other"] := has_of X G a l c k fun F => F.binds fun _ _ _ _ _ _ us hl => match us, hl with | [_, _], _ => rfl
theorem h__law_less (X : K.In h) (G : h.Ns mainGlobals mg) (a : PySem.W.nsIn K mainGlobals "_law_less" = some (some (.ref f))) (l : K.lookup f = some ⟨oc, od, .func (PySem.W.fnOf "_law_less" "_law_less" (defArgs s__law_less) (defBody s__law_less) (defScope s__law_less) .none kV doc pm an cdv ct), osl⟩) (c : PySem.W.codeIn K cdv "_law_less" = true) (k : PySem.W.keepIn K (.ref f) = true) : Has K mg "_law_less" s__law_less ["one", "other"] := has_of X G a l c k fun F => F.binds fun _ _ _ _ _ _ us hl => match us, hl with | [_, _], _ => rfl
theorem h__law_minus (X : K.In h) (G : h.Ns mainGlobals mg) (a : PySem.W.nsIn K mainGlobals "_law_minus" = some (some (.ref f))) (l : K.lookup f = some ⟨oc, od, .func (PySem.W.fnOf "_law_minus" "_law_minus" (defArgs s__law_minus) (defBody s__law_minus) (defScope s__law_minus) .none kV doc pm an cdv ct), osl⟩) (c : PySem.W.codeIn K cdv "_law_minus" = true) (k : PySem.W.keepIn K (.ref f) = true) : Has K mg "_law_minus" s__law_minus ["one", "other"] := has_of X G a l c k fun F => F.binds fun _ _ _ _ _ _ us hl => match us, hl with | [_, _], _ => rfl
theorem h__law_matrix (X : K.In h) (G : h.Ns mainGlobals mg) (a : PySem.W.nsIn K mainGlobals "_law_matrix" = some (some (.ref f))) (l : K.lookup f = some ⟨oc, od, .func (PySem.W.fnOf "_law_matrix" "_law_matrix" (defArgs s__law_matrix) (defBody s__law_matrix) (defScope s__law_matrix) .none kV doc pm an cdv ct), osl⟩) (c : PySem.W.codeIn K cdv "_law_matrix" = true) (k : PySem.W.keepIn K (.ref f) = true) : Has K mg "_law_matrix" s__law_matrix ["pot", "rows", "columns"] := has_of X G a l c k fun F => F.binds fun _ _ _ _ _ _ us hl => match us, hl with | [_, _, _], _ => rfl
theorem h__law_corners (X : K.In h) (G : h.Ns mainGlobals mg) (a : PySem.W.nsIn K mainGlobals "_law_corners" = some (some (.ref f))) (l : K.lookup f = some ⟨oc, od, .func (PySem.W.fnOf "_law_corners" "_law_corners" (defArgs s__law_corners) (defBody s__law_corners) (defScope s__law_corners) .none kV doc pm an cdv ct), osl⟩) (c : PySem.W.codeIn K cdv "_law_corners" = true) (k : PySem.W.keepIn K (.ref f) = true) : Has K mg "_law_corners" s__law_corners ["one", "other", "number"] := has_of X G a l c k fun F => F.binds fun _ _ _ _ _ _ us hl => match us, hl with | [_, _, _], _ => rfl
theorem h__law_inverse (X : K.In h) (G : h.Ns mainGlobals mg) (a : PySem.W.nsIn K mainGlobals "_law_inverse" = some (some (.ref f))) (l : K.lookup f = some ⟨oc, od, .func (PySem.W.fnOf "_law_inverse" "_law_inverse" (defArgs s__law_inverse) (defBody s__law_inverse) (defScope s__law_inverse) .none kV doc pm an cdv ct), osl⟩) (c : PySem.W.codeIn K cdv "_law_inverse" = true) (k : PySem.W.keepIn K (.ref f) = true) : Has K mg "_law_inverse" s__law_inverse ["share"] := has_of X G a l c k fun F => F.binds fun _ _ _ _ _ _ us hl => match us, hl with | [_], _ => rfl
theorem h__law_due (X : K.In h) (G : h.Ns mainGlobals mg) (a : PySem.W.nsIn K mainGlobals "_law_due" = some (some (.ref f))) (l : K.lookup f = some ⟨oc, od, .func (PySem.W.fnOf "_law_due" "_law_due" (defArgs s__law_due) (defBody s__law_due) (defScope s__law_due) .none kV doc pm an cdv ct), osl⟩) (c : PySem.W.codeIn K cdv "_law_due" = true) (k : PySem.W.keepIn K (.ref f) = true) : Has K mg "_law_due" s__law_due ["one", "other", "number"] := has_of X G a l c k fun F => F.binds fun _ _ _ _ _ _ us hl => match us, hl with | [_, _, _], _ => rfl
theorem h__law_joined (X : K.In h) (G : h.Ns mainGlobals mg) (a : PySem.W.nsIn K mainGlobals "_law_joined" = some (some (.ref f))) (l : K.lookup f = some ⟨oc, od, .func (PySem.W.fnOf "_law_joined" "_law_joined" (defArgs s__law_joined) (defBody s__law_joined) (defScope s__law_joined) .none kV doc pm an cdv ct), osl⟩) (c : PySem.W.codeIn K cdv "_law_joined" = true) (k : PySem.W.keepIn K (.ref f) = true) : Has K mg "_law_joined" s__law_joined ["one", "other", "gains"] := has_of X G a l c k fun F => F.binds fun _ _ _ _ _ _ us hl => match us, hl with | [_, _, _], _ => rfl
theorem h__law_are_corners_right (X : K.In h) (G : h.Ns mainGlobals mg) (a : PySem.W.nsIn K mainGlobals "_law_are_corners_right" = some (some (.ref f))) (l : K.lookup f = some ⟨oc, od, .func (PySem.W.fnOf "_law_are_corners_right" "_law_are_corners_right" (defArgs s__law_are_corners_right) (defBody s__law_are_corners_right) (defScope s__law_are_corners_right) .none kV doc pm an cdv ct), osl⟩) (c : PySem.W.codeIn K cdv "_law_are_corners_right" = true) (k : PySem.W.keepIn K (.ref f) = true) : Has K mg "_law_are_corners_right" s__law_are_corners_right ["pot"] := has_of X G a l c k fun F => F.binds fun _ _ _ _ _ _ us hl => match us, hl with | [_], _ => rfl
theorem h__law_is_palin (X : K.In h) (G : h.Ns mainGlobals mg) (a : PySem.W.nsIn K mainGlobals "_law_is_palin" = some (some (.ref f))) (l : K.lookup f = some ⟨oc, od, .func (PySem.W.fnOf "_law_is_palin" "_law_is_palin" (defArgs s__law_is_palin) (defBody s__law_is_palin) (defScope s__law_is_palin) .none kV doc pm an cdv ct), osl⟩) (c : PySem.W.codeIn K cdv "_law_is_palin" = true) (k : PySem.W.keepIn K (.ref f) = true) : Has K mg "_law_is_palin" s__law_is_palin ["matrix", "paper"] := has_of X G a l c k fun F => F.binds fun _ _ _ _ _ _ us hl => match us, hl with | [_, _], _ => rfl
theorem h__law_are_sides_right (X : K.In h) (G : h.Ns mainGlobals mg) (a : PySem.W.nsIn K mainGlobals "_law_are_sides_right" = some (some (.ref f))) (l : K.lookup f = some ⟨oc, od, .func (PySem.W.fnOf "_law_are_sides_right" "_law_are_sides_right" (defArgs s__law_are_sides_right) (defBody s__law_are_sides_right) (defScope s__law_are_sides_right) .none kV doc pm an cdv ct), osl⟩) (c : PySem.W.codeIn K cdv "_law_are_sides_right" = true) (k : PySem.W.keepIn K (.ref f) = true) : Has K mg "_law_are_sides_right" s__law_are_sides_right ["pot"] := has_of X G a l c k fun F => F.binds fun _ _ _ _ _ _ us hl => match us, hl with | [_], _ => rfl
theorem h_Corner_init (X : K.In h) (g : mg "Corner" = some (.ref C)) (a : PySem.W.findIn K (.ref C) "__init__" = some (some (.ref f))) (i : PySem.W.isFn K (.ref f) = true) (l : K.lookup f = some ⟨oc, od, .func (PySem.W.fnOf "__init__" "Corner.__init__" (defArgs s_Corner_init) (defBody s_Corner_init) (defScope s_Corner_init) .none kV doc pm an cdv ct), osl⟩) (c : PySem.W.codeIn K cdv "Corner.__init__" = true) (k : PySem.W.keepIn K (.ref f) = true) : HasM K C "__init__" "Corner.__init__" s_Corner_init ["self", "matrix"] := hasM_of a i l c k fun F => F.binds fun _ _ _ _ _ _ us hl => match us, hl with | [_, _], _ => rfl
theorem h_Corner_entering (X : K.In h) (g : mg "Corner" = some (.ref C)) (a : PySem.W.findIn K (.ref C) "entering" = some (some (.ref f))) (i : PySem.W.isFn K (.ref f) = true) (l : K.lookup f = some ⟨oc, od, .func (PySem.W.fnOf "entering" "Corner.entering" (defArgs s_Corner_entering) (defBody s_Corner_entering) (defScope s_Corner_entering) .none kV doc pm an cdv ct), osl⟩) (c : PySem.W.codeIn K cdv "Corner.entering" = true) (k : PySem.W.keepIn K (.ref f) = true) : HasM K C "entering" "Corner.entering" s_Corner_entering ["self"] := hasM_of a i l c k fun F => F.binds fun _ _ _ _ _ _ us hl => match us, hl with | [_], _ => rfl
theorem h_Corner_leaving (X : K.In h) (g : mg "Corner" = some (.ref C)) (a : PySem.W.findIn K (.ref C) "leaving" = some (some (.ref f))) (i : PySem.W.isFn K (.ref f) = true) (l : K.lookup f = some ⟨oc, od, .func (PySem.W.fnOf "leaving" "Corner.leaving" (defArgs s_Corner_leaving) (defBody s_Corner_leaving) (defScope s_Corner_leaving) .none kV doc pm an cdv ct), osl⟩) (c : PySem.W.codeIn K cdv "Corner.leaving" = true) (k : PySem.W.keepIn K (.ref f) = true) : HasM K C "leaving" "Corner.leaving" s_Corner_leaving ["self", "column"] := hasM_of a i l c k fun F => F.binds fun _ _ _ _ _ _ us hl => match us, hl with | [_, _], _ => rfl
theorem h_Corner_turn (X : K.In h) (g : mg "Corner" = some (.ref C)) (a : PySem.W.findIn K (.ref C) "turn" = some (some (.ref f))) (i : PySem.W.isFn K (.ref f) = true) (l : K.lookup f = some ⟨oc, od, .func (PySem.W.fnOf "turn" "Corner.turn" (defArgs s_Corner_turn) (defBody s_Corner_turn) (defScope s_Corner_turn) .none kV doc pm an cdv ct), osl⟩) (c : PySem.W.codeIn K cdv "Corner.turn" = true) (k : PySem.W.keepIn K (.ref f) = true) : HasM K C "turn" "Corner.turn" s_Corner_turn ["self", "place", "column"] := hasM_of a i l c k fun F => F.binds fun _ _ _ _ _ _ us hl => match us, hl with | [_, _, _], _ => rfl
theorem h_Corner_go (X : K.In h) (g : mg "Corner" = some (.ref C)) (a : PySem.W.findIn K (.ref C) "go" = some (some (.ref f))) (i : PySem.W.isFn K (.ref f) = true) (l : K.lookup f = some ⟨oc, od, .func (PySem.W.fnOf "go" "Corner.go" (defArgs s_Corner_go) (defBody s_Corner_go) (defScope s_Corner_go) .none kV doc pm an cdv ct), osl⟩) (c : PySem.W.codeIn K cdv "Corner.go" = true) (k : PySem.W.keepIn K (.ref f) = true) : HasM K C "go" "Corner.go" s_Corner_go ["self"] := hasM_of a i l c k fun F => F.binds fun _ _ _ _ _ _ us hl => match us, hl with | [_], _ => rfl
theorem h_Corner_columns (X : K.In h) (g : mg "Corner" = some (.ref C)) (a : PySem.W.findIn K (.ref C) "columns" = some (some (.ref f))) (i : PySem.W.isFn K (.ref f) = true) (l : K.lookup f = some ⟨oc, od, .func (PySem.W.fnOf "columns" "Corner.columns" (defArgs s_Corner_columns) (defBody s_Corner_columns) (defScope s_Corner_columns) .none kV doc pm an cdv ct), osl⟩) (c : PySem.W.codeIn K cdv "Corner.columns" = true) (k : PySem.W.keepIn K (.ref f) = true) : HasM K C "columns" "Corner.columns" s_Corner_columns ["self", "wide"] := hasM_of a i l c k fun F => F.binds fun _ _ _ _ _ _ us hl => match us, hl with | [_, _], _ => rfl
end
structure Facts (K : PySem.W.Frag) (mg : Str → Option Value) (C : Addr) : Prop where
  bl : Bl mg
  cor : Cor K C
  cn : mg "Corner" = some (.ref C)
  g0 : GC K mg "NOTHING" (frD 0)
  g1 : GC K mg "WHOLE" (frD 1)
  gv : GC K mg "MOST_VALUE" (frD 100)
  gs : GC K mg "MOST_SIDE" (.int 64)
  g3 : GC K mg "THREE" (.int 3)
  f_is_integer : Has K mg "is_integer" s_is_integer ["value"]
  f_common : Has K mg "common" s_common ["one", "other"]
  f_part : Has K mg "part" s_part ["top", "low"]
  f_plus : Has K mg "plus" s_plus ["one", "other"]
  f_minus : Has K mg "minus" s_minus ["one", "other"]
  f_times : Has K mg "times" s_times ["one", "other"]
  f_divided : Has K mg "divided" s_divided ["one", "other"]
  f_is_less : Has K mg "is_less" s_is_less ["one", "other"]
  f_sum_of : Has K mg "sum_of" s_sum_of ["some"]
  f_least_of : Has K mg "least_of" s_least_of ["some"]
  f_greatest_of : Has K mg "greatest_of" s_greatest_of ["some"]
  f_is_fraction : Has K mg "is_fraction" s_is_fraction ["value"]
  f_is_share : Has K mg "is_share" s_is_share ["value", "many"]
  f_mean_of : Has K mg "mean_of" s_mean_of ["shares", "some"]
  f_is_row : Has K mg "is_row" s_is_row ["value", "many"]
  f_is_matrix : Has K mg "is_matrix" s_is_matrix ["value"]
  f_check_matrix : Has K mg "check_matrix" s_check_matrix ["matrix"]
  f_columns_of : Has K mg "columns_of" s_columns_of ["matrix"]
  f_less_times : Has K mg "less_times" s_less_times ["row", "other", "column"]
  f_solved : Has K mg "solved" s_solved ["matrix"]
  f_matrix_told : Has K mg "matrix_told" s_matrix_told ["matrix"]
  f_shows_matrix : Has K mg "shows_matrix" s_shows_matrix ["matrix", "value"]
  f__law_pot : Has K mg "_law_pot" s__law_pot ["script", "place"]
  f__law_take : Has K mg "_law_take" s__law_take ["pot", "upto"]
  f__law_of : Has K mg "_law_of" s__law_of ["pot", "some"]
  f__law_cells : Has K mg "_law_cells" s__law_cells ["script", "limit"]
  f__law_short : Has K mg "_law_short" s__law_short ["top", "low"]
  f__law_plus : Has K mg "_law_plus" s__law_plus ["one", "other"]
  f__law_times : Has K mg "_law_times" s__law_times ["one", "other"]
  f__law_less : Has K mg "_law_less" s__law_less ["one", "other"]
  f__law_minus : Has K mg "_law_minus" s__law_minus ["one", "other"]
  f__law_matrix : Has K mg "_law_matrix" s__law_matrix ["pot", "rows", "columns"]
  f__law_corners : Has K mg "_law_corners" s__law_corners ["one", "other", "number"]
  f__law_inverse : Has K mg "_law_inverse" s__law_inverse ["share"]
  f__law_due : Has K mg "_law_due" s__law_due ["one", "other", "number"]
  f__law_joined : Has K mg "_law_joined" s__law_joined ["one", "other", "gains"]
  f__law_are_corners_right : Has K mg "_law_are_corners_right" s__law_are_corners_right ["pot"]
  f__law_is_palin : Has K mg "_law_is_palin" s__law_is_palin ["matrix", "paper"]
  f__law_are_sides_right : Has K mg "_law_are_sides_right" s__law_are_sides_right ["pot"]
  f_Corner_init : HasM K C "__init__" "Corner.__init__" s_Corner_init ["self", "matrix"]
  f_Corner_entering : HasM K C "entering" "Corner.entering" s_Corner_entering ["self"]
  f_Corner_leaving : HasM K C "leaving" "Corner.leaving" s_Corner_leaving ["self", "column"]
  f_Corner_turn : HasM K C "turn" "Corner.turn" s_Corner_turn ["self", "place", "column"]
  f_Corner_go : HasM K C "go" "Corner.go" s_Corner_go ["self"]
  f_Corner_columns : HasM K C "columns" "Corner.columns" s_Corner_columns ["self", "wide"]
theorem Facts.law {P : Program} {w : World} {K : PySem.W.Frag} {mg : Str → Option Value} {base : Heap} {C f : Addr} {fd : FuncData} (T : Facts K mg C) (F : Fun K "law" "law" s_law f fd) : FnG P w K mg base 10 f fd ["script"] (spLaw K) := by
  have B := T.bl
  have hC := T.cor
  have common : Cb P w K mg base _ _ _ := ok_common B T.f_common
  have part : Cb P w K mg base _ _ _ := ok_part B T.f_part common
  have plus : Cb P w K mg base _ _ _ := ok_plus T.f_plus part
  have minus : Cb P w K mg base _ _ _ := ok_minus T.f_minus part
  have times : Cb P w K mg base _ _ _ := ok_times T.f_times part
  have divided : Cb P w K mg base _ _ _ := ok_divided T.f_divided part
  have is_less : Cb P w K mg base _ _ _ := ok_less T.f_is_less
  have sum_of : Cb P w K mg base _ _ _ := ok_sum T.f_sum_of T.g0 plus
  have least_of : Cb P w K mg base _ _ _ := ok_least T.f_least_of is_less
  have greatest_of : Cb P w K mg base _ _ _ := ok_greatest T.f_greatest_of is_less
  have is_integer : Cb P w K mg base _ _ _ := ok_isint B T.f_is_integer
  have is_fraction : Cb P w K mg base _ _ _ := ok_isfr B T.f_is_fraction is_integer common
  have is_share : Cb P w K mg base _ _ _ := ok_share B T.f_is_share T.g1 is_fraction sum_of
  have mean_of : Cb P w K mg base _ _ _ := ok_mean B T.f_mean_of times sum_of
  have is_row : Cb P w K mg base _ _ _ := ok_row B T.f_is_row T.gv is_fraction is_less
  have is_matrix : Cb P w K mg base _ _ _ := ok_mat B T.f_is_matrix T.gs is_row
  have check_matrix : Cb P w K mg base _ _ _ := ok_check T.f_check_matrix is_matrix
  have columns_of : Cb P w K mg base _ _ _ := ok_cols B T.f_columns_of
  have less_times : Cb P w K mg base _ _ _ := ok_lesst B T.f_less_times times minus
  have c_init : Mx2 P w K mg base _ _ _ _ := ok_init B hC T.f_Corner_init T.g0 T.g1 plus minus
  have c_ent : Mb P w K mg base _ _ _ _ := ok_ent B hC T.f_Corner_entering T.g0 is_less
  have c_lv : Mb P w K mg base _ _ _ _ := ok_lv B hC T.f_Corner_leaving T.g0 is_less divided least_of
  have c_turn : Mx2 P w K mg base _ _ _ _ := ok_turn B hC T.f_Corner_turn divided less_times
  have c_go : Mx2 P w K mg base _ _ _ _ := ok_go hC T.f_Corner_go c_ent c_lv c_turn
  have c_cols : Mb P w K mg base _ _ _ _ := ok_columns B hC T.f_Corner_columns T.g0
  have solved : Cb P w K mg base _ _ _ := ok_solved B hC T.cn T.f_solved T.g1 c_init c_go c_cols sum_of minus divided
  have told : Cb P w K mg base _ _ _ := ok_told T.f_matrix_told check_matrix solved
  have shows : Cb P w K mg base _ _ _ := ok_shows B T.f_shows_matrix T.g3 check_matrix is_fraction is_share least_of greatest_of mean_of columns_of is_less
  have short : Cb P w K mg base _ _ _ := ok_short B T.f__law_short
  have lplus : Cb P w K mg base _ _ _ := ok_lplus T.f__law_plus short
  have ltimes : Cb P w K mg base _ _ _ := ok_ltimes T.f__law_times short
  have lminus : Cb P w K mg base _ _ _ := ok_lminus T.f__law_minus short
  have lless : Cb P w K mg base _ _ _ := ok_lless T.f__law_less
  have linv : Cb P w K mg base _ _ _ := ok_linv T.f__law_inverse
  have lcor : Cb P w K mg base _ _ _ := ok_lcor B T.f__law_corners
  have ldue : Cb P w K mg base _ _ _ := ok_ldue T.f__law_due lless lminus lplus linv
  have ljoin : Cb P w K mg base _ _ _ := ok_ljoin B T.f__law_joined lplus ltimes linv
  have lpal : Cb P w K mg base _ _ _ := ok_lpal B T.f__law_is_palin lplus ltimes lless
  have take : Fb P w K mg base _ _ _ := takeK (ok_take B T.f__law_take)
  have lof : Fb P w K mg base _ _ _ := ok_of B T.f__law_of take
  have lmat : Fb P w K mg base _ _ _ := ok_lmat B T.f__law_matrix take lof short
  have cells : Cb P w K mg base _ _ _ := ok_cells B T.f__law_cells
  have pot : Fb P w K mg base _ _ _ := ok_pot B T.f__law_pot
  have corners : Gb P w K mg base _ _ _ := ok_corners B T.f__law_are_corners_right take lof lmat short told shows lless lminus lcor ldue ljoin lpal
  have sides : Gb P w K mg base _ _ _ := ok_sides B T.f__law_are_sides_right take lof lmat told shows lless lplus ltimes
  exact ok_law B F cells pot corners sides
theorem Facts.ends {P : Program} {w : World} {K : PySem.W.Frag} {h : Heap} {mg : Str → Option Value} {C fa f : Addr} {oc kV doc pm cdv ct : Value} {od an : Option Addr} {osl : Array (Option Value)} (T : Facts K mg C) (X : K.In h) (G : h.Ns mainGlobals mg) (a : PySem.W.nsIn K mainGlobals "law" = some (some (.ref f))) (l : K.lookup f = some ⟨oc, od, .func (PySem.W.fnOf "law" "law" (defArgs s_law) (defBody s_law) (defScope s_law) .none kV doc pm an cdv ct), osl⟩) (c : PySem.W.codeIn K cdv "law" = true) (k : PySem.W.keepIn K (.ref f) = true) (hfa : mg "law" = some (.ref fa)) : ∃ fd : FuncData, (∀ (s : Shared) (u : Value), BindsTo s fd ⟨[u], []⟩ [("script", u)]) ∧ ∀ base : Heap, K.In base → base.Ns mainGlobals mg → FnG P w K mg base 10 fa fd ["script"] (spLaw K) := by
  have e := hfa.symm.trans (PySem.W.mg_of X G a)
  cases e
  exact ⟨_, fun s u => .of_eq rfl, fun base _ _ => T.law (fun_mk l c k)⟩
end KP
open PySem PySem.W PyProof.Rows
set_option maxRecDepth 100000 in
set_option maxHeartbeats 0 in
theorem PySem.Challenge.cw_astherulessay_k68_whole_matrices_put_tog_holds : PySem.Challenge.rw_astherulessay_k68_whole_matrices_put_tog.Holds := by
  w_on; o_law; k_head; (case hw => w_witness2)
  k_fill
  refine KP.walk_G (l := PySem.Challenge.rw_astherulessay_k68_whole_matrices_put_tog) (k := 10) rfl rfl ⟨rfl, by decide, by decide⟩ (fun w h Y => PySem.W.kIn_of Y) ?F
  case F =>
    intro w mg fa h KX G hmg
    refine' KP.use (KP.no_of (x := "abs") KX G ?a1) ?_; (case a1 => k_is); intro b_abs
    refine' KP.use (KP.no_of (x := "len") KX G ?a2) ?_; (case a2 => k_is); intro b_len
    refine' KP.use (KP.no_of (x := "all") KX G ?a3) ?_; (case a3 => k_is); intro b_all
    refine' KP.use (KP.no_of (x := "any") KX G ?a4) ?_; (case a4 => k_is); intro b_any
    refine' KP.use (KP.no_of (x := "zip") KX G ?a5) ?_; (case a5 => k_is); intro b_zip
    refine' KP.use (KP.no_of (x := "enumerate") KX G ?a6) ?_; (case a6 => k_is); intro b_enumerate
    refine' KP.use (KP.no_of (x := "range") KX G ?a7) ?_; (case a7 => k_is); intro b_range
    refine' KP.use (KP.no_of (x := "tuple") KX G ?a8) ?_; (case a8 => k_is); intro b_tuple
    refine' KP.use (KP.no_of (x := "list") KX G ?a9) ?_; (case a9 => k_is); intro b_list
    refine' KP.use (KP.no_of (x := "int") KX G ?a10) ?_; (case a10 => k_is); intro b_int
    refine' KP.use (KP.no_of (x := "bool") KX G ?a11) ?_; (case a11 => k_is); intro b_bool
    refine' KP.use (KP.no_of (x := "min") KX G ?a12) ?_; (case a12 => k_is); intro b_min
    refine' KP.use (KP.no_of (x := "max") KX G ?a13) ?_; (case a13 => k_is); intro b_max
    refine' KP.use (KP.no_of (x := "dict") KX G ?a14) ?_; (case a14 => k_is); intro b_dict
    refine' KP.use (KP.no_of (x := "isinstance") KX G ?a15) ?_; (case a15 => k_is); intro b_isinstance
    refine' KP.use (KP.no_of (x := "repr") KX G ?a16) ?_; (case a16 => k_is); intro b_repr
    refine' KP.use (KP.no_of (x := "sum") KX G ?a17) ?_; (case a17 => k_is); intro b_sum
    refine' KP.use (KP.glo_of (x := "Corner") KX G ?a18) ?_; (case a18 => k_is); intro g_Corner
    refine' KP.use (KP.gc_tup (x := "NOTHING") KX G ?a19 ?l19) ?_; (case a19 => k_is); (case l19 => k_is); intro g_0
    refine' KP.use (KP.gc_tup (x := "WHOLE") KX G ?a20 ?l20) ?_; (case a20 => k_is); (case l20 => k_is); intro g_1
    refine' KP.use (KP.gc_tup (x := "MOST_VALUE") KX G ?a21 ?l21) ?_; (case a21 => k_is); (case l21 => k_is); intro g_v
    refine' KP.use (KP.gc_int (x := "MOST_SIDE") KX G ?a22) ?_; (case a22 => k_is); intro g_s
    refine' KP.use (KP.gc_int (x := "THREE") KX G ?a23) ?_; (case a23 => k_is); intro g_3
    refine' KP.use (KP.h_is_integer KX G ?a24 ?l24 ?c24 ?k24) ?_; (case a24 => k_is); (case l24 => k_is); (case c24 => k_is); (case k24 => k_is); intro h_is_integer
    refine' KP.use (KP.h_common KX G ?a25 ?l25 ?c25 ?k25) ?_; (case a25 => k_is); (case l25 => k_is); (case c25 => k_is); (case k25 => k_is); intro h_common
    refine' KP.use (KP.h_part KX G ?a26 ?l26 ?c26 ?k26) ?_; (case a26 => k_is); (case l26 => k_is); (case c26 => k_is); (case k26 => k_is); intro h_part
    refine' KP.use (KP.h_plus KX G ?a27 ?l27 ?c27 ?k27) ?_; (case a27 => k_is); (case l27 => k_is); (case c27 => k_is); (case k27 => k_is); intro h_plus
    refine' KP.use (KP.h_minus KX G ?a28 ?l28 ?c28 ?k28) ?_; (case a28 => k_is); (case l28 => k_is); (case c28 => k_is); (case k28 => k_is); intro h_minus
    refine' KP.use (KP.h_times KX G ?a29 ?l29 ?c29 ?k29) ?_; (case a29 => k_is); (case l29 => k_is); (case c29 => k_is); (case k29 => k_is); intro h_times
    refine' KP.use (KP.h_divided KX G ?a30 ?l30 ?c30 ?k30) ?_; (case a30 => k_is); (case l30 => k_is); (case c30 => k_is); (case k30 => k_is); intro h_divided
    refine' KP.use (KP.h_is_less KX G ?a31 ?l31 ?c31 ?k31) ?_; (case a31 => k_is); (case l31 => k_is); (case c31 => k_is); (case k31 => k_is); intro h_is_less
    refine' KP.use (KP.h_sum_of KX G ?a32 ?l32 ?c32 ?k32) ?_; (case a32 => k_is); (case l32 => k_is); (case c32 => k_is); (case k32 => k_is); intro h_sum_of
    refine' KP.use (KP.h_least_of KX G ?a33 ?l33 ?c33 ?k33) ?_; (case a33 => k_is); (case l33 => k_is); (case c33 => k_is); (case k33 => k_is); intro h_least_of
    refine' KP.use (KP.h_greatest_of KX G ?a34 ?l34 ?c34 ?k34) ?_; (case a34 => k_is); (case l34 => k_is); (case c34 => k_is); (case k34 => k_is); intro h_greatest_of
    refine' KP.use (KP.h_is_fraction KX G ?a35 ?l35 ?c35 ?k35) ?_; (case a35 => k_is); (case l35 => k_is); (case c35 => k_is); (case k35 => k_is); intro h_is_fraction
    refine' KP.use (KP.h_is_share KX G ?a36 ?l36 ?c36 ?k36) ?_; (case a36 => k_is); (case l36 => k_is); (case c36 => k_is); (case k36 => k_is); intro h_is_share
    refine' KP.use (KP.h_mean_of KX G ?a37 ?l37 ?c37 ?k37) ?_; (case a37 => k_is); (case l37 => k_is); (case c37 => k_is); (case k37 => k_is); intro h_mean_of
    refine' KP.use (KP.h_is_row KX G ?a38 ?l38 ?c38 ?k38) ?_; (case a38 => k_is); (case l38 => k_is); (case c38 => k_is); (case k38 => k_is); intro h_is_row
    refine' KP.use (KP.h_is_matrix KX G ?a39 ?l39 ?c39 ?k39) ?_; (case a39 => k_is); (case l39 => k_is); (case c39 => k_is); (case k39 => k_is); intro h_is_matrix
    refine' KP.use (KP.h_check_matrix KX G ?a40 ?l40 ?c40 ?k40) ?_; (case a40 => k_is); (case l40 => k_is); (case c40 => k_is); (case k40 => k_is); intro h_check_matrix
    refine' KP.use (KP.h_columns_of KX G ?a41 ?l41 ?c41 ?k41) ?_; (case a41 => k_is); (case l41 => k_is); (case c41 => k_is); (case k41 => k_is); intro h_columns_of
    refine' KP.use (KP.h_less_times KX G ?a42 ?l42 ?c42 ?k42) ?_; (case a42 => k_is); (case l42 => k_is); (case c42 => k_is); (case k42 => k_is); intro h_less_times
    refine' KP.use (KP.h_solved KX G ?a43 ?l43 ?c43 ?k43) ?_; (case a43 => k_is); (case l43 => k_is); (case c43 => k_is); (case k43 => k_is); intro h_solved
    refine' KP.use (KP.h_matrix_told KX G ?a44 ?l44 ?c44 ?k44) ?_; (case a44 => k_is); (case l44 => k_is); (case c44 => k_is); (case k44 => k_is); intro h_matrix_told
    refine' KP.use (KP.h_shows_matrix KX G ?a45 ?l45 ?c45 ?k45) ?_; (case a45 => k_is); (case l45 => k_is); (case c45 => k_is); (case k45 => k_is); intro h_shows_matrix
    refine' KP.use (KP.h__law_pot KX G ?a46 ?l46 ?c46 ?k46) ?_; (case a46 => k_is); (case l46 => k_is); (case c46 => k_is); (case k46 => k_is); intro h__law_pot
    refine' KP.use (KP.h__law_take KX G ?a47 ?l47 ?c47 ?k47) ?_; (case a47 => k_is); (case l47 => k_is); (case c47 => k_is); (case k47 => k_is); intro h__law_take
    refine' KP.use (KP.h__law_of KX G ?a48 ?l48 ?c48 ?k48) ?_; (case a48 => k_is); (case l48 => k_is); (case c48 => k_is); (case k48 => k_is); intro h__law_of
    refine' KP.use (KP.h__law_cells KX G ?a49 ?l49 ?c49 ?k49) ?_; (case a49 => k_is); (case l49 => k_is); (case c49 => k_is); (case k49 => k_is); intro h__law_cells
    refine' KP.use (KP.h__law_short KX G ?a50 ?l50 ?c50 ?k50) ?_; (case a50 => k_is); (case l50 => k_is); (case c50 => k_is); (case k50 => k_is); intro h__law_short
    refine' KP.use (KP.h__law_plus KX G ?a51 ?l51 ?c51 ?k51) ?_; (case a51 => k_is); (case l51 => k_is); (case c51 => k_is); (case k51 => k_is); intro h__law_plus
    refine' KP.use (KP.h__law_times KX G ?a52 ?l52 ?c52 ?k52) ?_; (case a52 => k_is); (case l52 => k_is); (case c52 => k_is); (case k52 => k_is); intro h__law_times
    refine' KP.use (KP.h__law_less KX G ?a53 ?l53 ?c53 ?k53) ?_; (case a53 => k_is); (case l53 => k_is); (case c53 => k_is); (case k53 => k_is); intro h__law_less
    refine' KP.use (KP.h__law_minus KX G ?a54 ?l54 ?c54 ?k54) ?_; (case a54 => k_is); (case l54 => k_is); (case c54 => k_is); (case k54 => k_is); intro h__law_minus
    refine' KP.use (KP.h__law_matrix KX G ?a55 ?l55 ?c55 ?k55) ?_; (case a55 => k_is); (case l55 => k_is); (case c55 => k_is); (case k55 => k_is); intro h__law_matrix
    refine' KP.use (KP.h__law_corners KX G ?a56 ?l56 ?c56 ?k56) ?_; (case a56 => k_is); (case l56 => k_is); (case c56 => k_is); (case k56 => k_is); intro h__law_corners
    refine' KP.use (KP.h__law_inverse KX G ?a57 ?l57 ?c57 ?k57) ?_; (case a57 => k_is); (case l57 => k_is); (case c57 => k_is); (case k57 => k_is); intro h__law_inverse
    refine' KP.use (KP.h__law_due KX G ?a58 ?l58 ?c58 ?k58) ?_; (case a58 => k_is); (case l58 => k_is); (case c58 => k_is); (case k58 => k_is); intro h__law_due
    refine' KP.use (KP.h__law_joined KX G ?a59 ?l59 ?c59 ?k59) ?_; (case a59 => k_is); (case l59 => k_is); (case c59 => k_is); (case k59 => k_is); intro h__law_joined
    refine' KP.use (KP.h__law_are_corners_right KX G ?a60 ?l60 ?c60 ?k60) ?_; (case a60 => k_is); (case l60 => k_is); (case c60 => k_is); (case k60 => k_is); intro h__law_are_corners_right
    refine' KP.use (KP.h__law_is_palin KX G ?a61 ?l61 ?c61 ?k61) ?_; (case a61 => k_is); (case l61 => k_is); (case c61 => k_is); (case k61 => k_is); intro h__law_is_palin
    refine' KP.use (KP.h__law_are_sides_right KX G ?a62 ?l62 ?c62 ?k62) ?_; (case a62 => k_is); (case l62 => k_is); (case c62 => k_is); (case k62 => k_is); intro h__law_are_sides_right
    refine' KP.use (KP.h_Corner_init KX g_Corner ?a63 ?i63 ?l63 ?c63 ?k63) ?_; (case a63 => k_is); (case i63 => k_is); (case l63 => k_is); (case c63 => k_is); (case k63 => k_is); intro h_Corner_init
    refine' KP.use (KP.h_Corner_entering KX g_Corner ?a64 ?i64 ?l64 ?c64 ?k64) ?_; (case a64 => k_is); (case i64 => k_is); (case l64 => k_is); (case c64 => k_is); (case k64 => k_is); intro h_Corner_entering
    refine' KP.use (KP.h_Corner_leaving KX g_Corner ?a65 ?i65 ?l65 ?c65 ?k65) ?_; (case a65 => k_is); (case i65 => k_is); (case l65 => k_is); (case c65 => k_is); (case k65 => k_is); intro h_Corner_leaving
    refine' KP.use (KP.h_Corner_turn KX g_Corner ?a66 ?i66 ?l66 ?c66 ?k66) ?_; (case a66 => k_is); (case i66 => k_is); (case l66 => k_is); (case c66 => k_is); (case k66 => k_is); intro h_Corner_turn
    refine' KP.use (KP.h_Corner_go KX g_Corner ?a67 ?i67 ?l67 ?c67 ?k67) ?_; (case a67 => k_is); (case i67 => k_is); (case l67 => k_is); (case c67 => k_is); (case k67 => k_is); intro h_Corner_go
    refine' KP.use (KP.h_Corner_columns KX g_Corner ?a68 ?i68 ?l68 ?c68 ?k68) ?_; (case a68 => k_is); (case i68 => k_is); (case l68 => k_is); (case c68 => k_is); (case k68 => k_is); intro h_Corner_columns
    refine' KP.Facts.ends ⟨⟨b_abs, b_len, b_all, b_any, b_zip, b_enumerate, b_range, b_tuple, b_list, b_int, b_bool, b_min, b_max, b_dict, b_isinstance, b_repr, b_sum⟩, ⟨⟨?pg, ?hd, ?po, ?sa⟩, ?n1, ?n2, ?n3, ?mk, ?kc⟩, g_Corner, g_0, g_1, g_v, g_s, g_3, h_is_integer, h_common, h_part, h_plus, h_minus, h_times, h_divided, h_is_less, h_sum_of, h_least_of, h_greatest_of, h_is_fraction, h_is_share, h_mean_of, h_is_row, h_is_matrix, h_check_matrix, h_columns_of, h_less_times, h_solved, h_matrix_told, h_shows_matrix, h__law_pot, h__law_take, h__law_of, h__law_cells, h__law_short, h__law_plus, h__law_times, h__law_less, h__law_minus, h__law_matrix, h__law_corners, h__law_inverse, h__law_due, h__law_joined, h__law_are_corners_right, h__law_is_palin, h__law_are_sides_right, h_Corner_init, h_Corner_entering, h_Corner_leaving, h_Corner_turn, h_Corner_go, h_Corner_columns⟩ KX G ?a ?l ?c ?k hmg
    (case pg => k_is); (case hd => k_is); (case po => k_is); (case sa => k_is); (case n1 => unfold L2.NoAttr; k_is); (case n2 => unfold L2.NoAttr; k_is); (case n3 => unfold L2.NoAttr; k_is); (case mk => k_is); (case kc => k_is)
    (case a => k_is); (case l => k_is); (case c => k_is); (case k => k_is)
