/- Plain: a simple closed walk on a grid has an area other than 0; so has a ring; no program in sight. No condition beyond each lemma's own. -/
import Derived.Test.YtbackoeakepngaaZFnAreasGeo
set_option linter.unusedVariables false
namespace Go.Proofs.Ytbackoeakepngaa.Area
def sumN (f : Nat → Nat) : Nat → Nat
  | 0 => 0
  | n + 1 => sumN f n + f n
theorem sumN_congr {f g : Nat → Nat} : ∀ {n}, (∀ j, j < n → f j = g j) → sumN f n = sumN g n
  | 0, _ => rfl
  | n + 1, h => by
    have := sumN_congr (n := n) (fun j hj => h j (by omega))
    simp only [sumN]; rw [this, h n (by omega)]
theorem sumN_add (f g : Nat → Nat) : ∀ n, sumN (fun j => f j + g j) n = sumN f n + sumN g n
  | 0 => rfl
  | n + 1 => by simp only [sumN]; rw [sumN_add f g n]; omega
theorem sumN_mod {f g : Nat → Nat} : ∀ {n}, (∀ j, j < n → f j % 2 = g j % 2) → sumN f n % 2 = sumN g n % 2
  | 0, _ => rfl
  | n + 1, h => by
    have := sumN_mod (n := n) (fun j hj => h j (by omega))
    have := h n (by omega)
    simp only [sumN]; omega
def nx (n j : Nat) : Nat := if j + 1 = n then 0 else j + 1
theorem nx_lt {n j : Nat} (h : j < n) : nx n j < n := by unfold nx; split <;> omega
theorem sumN_succ' (f : Nat → Nat) : ∀ n, sumN f (n + 1) = f 0 + sumN (fun j => f (j + 1)) n
  | 0 => by simp [sumN]
  | n + 1 => by rw [sumN, sumN_succ' f n]; simp only [sumN]; omega
theorem sumN_nx (f : Nat → Nat) (n : Nat) : sumN (fun j => f (nx n j)) n = sumN f n := by
  cases n with
  | zero => rfl
  | succ n =>
    rw [sumN_succ' f n]
    simp only [sumN]
    have h1 : nx (n + 1) n = 0 := by unfold nx; simp
    have h2 : sumN (fun j => f (nx (n + 1) j)) n = sumN (fun j => f (j + 1)) n := sumN_congr (fun j hj => by
      have : nx (n + 1) j = j + 1 := by unfold nx; rw [if_neg (by omega)]
      simp only [this])
    rw [h1, h2]; omega
theorem sumN_one {f : Nat → Nat} {i : Nat} : ∀ {n}, i < n → (∀ j, j < n → j ≠ i → f j = 0) → sumN f n = f i
  | 0, h, _ => by omega
  | n + 1, h, h0 => by
    simp only [sumN]
    by_cases hi : i = n
    · subst hi
      have : sumN f i = 0 := by
        rw [sumN_congr (g := fun _ => 0) (fun j hj => h0 j (by omega) (by omega))]
        clear h h0
        induction i with
        | zero => rfl
        | succ i ih => simp only [sumN]; omega
      omega
    · rw [sumN_one (i := i) (n := n) (by omega) (fun j hj => h0 j (by omega)), h0 n (by omega) (by omega)]; omega
structure Walk where
  n : Nat
  x : Nat → Rat
  h : Nat → Int
namespace Walk
variable (W : Walk)
def s (j : Nat) : Nat := nx W.n j
def Sp (j : Nat) (t : Int) : Prop := (W.h j ≤ t ∧ t < W.h (W.s j)) ∨ (W.h (W.s j) ≤ t ∧ t < W.h j)
def pos (j : Nat) (t : Rat) : Rat := W.x j + (W.x (W.s j) - W.x j) * (t - W.h j) / (W.h (W.s j) - W.h j)
def Cl (j : Nat) (t : Rat) : Prop := ((W.h j : Rat) ≤ t ∧ t ≤ W.h (W.s j)) ∨ ((W.h (W.s j) : Rat) ≤ t ∧ t ≤ W.h j)
structure Simple : Prop where
  three : 3 ≤ W.n
  apart : ∀ i j, i < W.n → j < W.n → W.h i = W.h j → i = j
  meet : ∀ i j, i < W.n → j < W.n → i ≠ j → ∀ t : Rat, W.Cl i t → W.Cl j t → W.pos i t = W.pos j t → (W.s i = j ∧ t = W.h j) ∨ (W.s j = i ∧ t = W.h i)
end Walk
end Go.Proofs.Ytbackoeakepngaa.Area
namespace Go.Proofs.Ytbackoeakepngaa.Area
open Classical
theorem linear_zero {α β a b : Rat} (h1 : α + β * a < 0) (h2 : 0 ≤ α + β * b) : ∃ c, α + β * c = 0 ∧ ((a < c ∧ c ≤ b) ∨ (b ≤ c ∧ c < a)) := by
  have hb : β ≠ 0 := by
    intro h; rw [h] at h1 h2; grind
  have e : α + β * (-α / β) = 0 := by grind
  refine ⟨-α / β, e, ?_⟩
  obtain ⟨c, hc⟩ : ∃ c, c = -α / β := ⟨_, rfl⟩
  rw [← hc] at e ⊢
  clear hc
  by_cases hp : 0 < β
  · left
    constructor
    · apply Classical.byContradiction
      intro h
      have : β * c ≤ β * a := Rat.mul_le_mul_of_nonneg_left (by grind) (by grind)
      grind
    · apply Classical.byContradiction
      intro h
      have : β * b < β * c := Rat.mul_lt_mul_of_pos_left (by grind) hp
      grind
  · right
    have hn : 0 < -β := by grind
    constructor
    · apply Classical.byContradiction
      intro h
      have : (-β) * c < (-β) * b := Rat.mul_lt_mul_of_pos_left (by grind) hn
      grind
    · apply Classical.byContradiction
      intro h
      have : (-β) * a ≤ (-β) * c := Rat.mul_le_mul_of_nonneg_left (by grind) (by grind)
      grind
namespace Walk
variable {W : Walk}
def K (W : Walk) (j : Nat) : Rat := (W.x (W.s j) - W.x j) / (W.h (W.s j) - W.h j)
theorem pos_eq (j : Nat) (t : Rat) : W.pos j t = (W.x j - W.K j * W.h j) + W.K j * t := by unfold pos K; grind
theorem pos_start (j : Nat) : W.pos j (W.h j) = W.x j := by rw [pos_eq]; grind
theorem s_lt {j : Nat} (h : j < W.n) : W.s j < W.n := nx_lt h
theorem s_ne {j : Nat} (hW : W.Simple) (h : j < W.n) : W.s j ≠ j := by
  have := hW.three; unfold s nx; split <;> omega
theorem h_ne {j : Nat} (hW : W.Simple) (h : j < W.n) : W.h (W.s j) ≠ W.h j := fun e => s_ne hW h (hW.apart _ _ (s_lt h) h e)
theorem pos_end {j : Nat} (hW : W.Simple) (h : j < W.n) : W.pos j (W.h (W.s j)) = W.x (W.s j) := by
  have h1 := h_ne hW h
  have h2 : (W.h (W.s j) : Rat) - W.h j ≠ 0 := by
    intro e
    apply h1
    have : (W.h (W.s j) : Rat) = W.h j := by grind
    exact Rat.intCast_inj.1 this
  unfold pos; grind
theorem lt_cast {a b : Int} : (a : Rat) < b ↔ a < b := Rat.intCast_lt_intCast
theorem le_cast {a b : Int} : (a : Rat) ≤ b ↔ a ≤ b := Rat.intCast_le_intCast
theorem eq_cast {a b : Int} : (a : Rat) = b ↔ a = b := Rat.intCast_inj
theorem Sp.cl {j : Nat} {t : Int} {c : Rat} (h : W.Sp j t) (h1 : (t : Rat) ≤ c) (h2 : c ≤ t + 1) : W.Cl j c := by
  unfold Sp at h; unfold Cl
  have e : ((t + 1 : Int) : Rat) = t + 1 := by grind
  rcases h with ⟨a, b⟩ | ⟨a, b⟩
  · left
    have := le_cast.2 a
    have := le_cast.2 (show t + 1 ≤ W.h (W.s j) by omega)
    grind
  · right
    have := le_cast.2 a
    have := le_cast.2 (show t + 1 ≤ W.h j by omega)
    grind
theorem not_int {t a : Int} {c : Rat} (h1 : (t : Rat) < c) (h2 : c < t + 1) : c ≠ a := by
  intro e
  rw [e] at h1 h2
  have e : ((t + 1 : Int) : Rat) = t + 1 := by grind
  rw [← e] at h2
  have := lt_cast.1 h1; have := lt_cast.1 h2; omega
theorem ord (hW : W.Simple) {i j : Nat} (hi : i < W.n) (hj : j < W.n) {t : Int} (si : W.Sp i t) (sj : W.Sp j t) {a : Rat} (ha : a = t ∨ a = t + 1) (h : W.pos i a < W.pos j a) : W.pos i (t + 1/2) < W.pos j (t + 1/2) := by
  have hne : i ≠ j := fun e => by subst e; grind
  apply Classical.byContradiction
  intro hc
  rw [pos_eq, pos_eq] at h hc
  obtain ⟨c, e, hcc⟩ := linear_zero (α := (W.x i - W.K i * W.h i) - (W.x j - W.K j * W.h j)) (β := W.K i - W.K j) (a := a) (b := t + 1/2) (by grind) (by grind)
  have h1 : (t : Rat) < c ∧ c < t + 1 := by grind
  have h2 := hW.meet i j hi hj hne c (si.cl (by grind) (by grind)) (sj.cl (by grind) (by grind)) (by rw [pos_eq, pos_eq]; grind)
  rcases h2 with ⟨_, h2⟩ | ⟨_, h2⟩ <;> exact not_int h1.1 h1.2 h2
theorem mid_ne (hW : W.Simple) {i j : Nat} (hi : i < W.n) (hj : j < W.n) {t : Int} (si : W.Sp i t) (sj : W.Sp j t) (hne : i ≠ j) : W.pos i (t + 1/2) ≠ W.pos j (t + 1/2) := by
  intro e
  have h2 := hW.meet i j hi hj hne (t + 1/2) (si.cl (by grind) (by grind)) (sj.cl (by grind) (by grind)) e
  rcases h2 with ⟨_, h2⟩ | ⟨_, h2⟩ <;> exact not_int (t := t) (by grind) (by grind) h2
noncomputable def ind (p : Prop) : Nat := if p then 1 else 0
theorem ind_t {p : Prop} (h : p) : ind p = 1 := if_pos h
theorem ind_f {p : Prop} (h : ¬ p) : ind p = 0 := if_neg h
noncomputable def r (W : Walk) (i : Nat) (t : Int) : Nat := sumN (fun j => ind (W.Sp j t ∧ W.pos i (t + 1/2) < W.pos j (t + 1/2))) W.n
noncomputable def Nm (W : Walk) (q : Rat) (t : Int) : Nat := sumN (fun j => ind (W.Sp j (t - 1) ∧ q < W.pos j t)) W.n
noncomputable def Np (W : Walk) (q : Rat) (t : Int) : Nat := sumN (fun j => ind (W.Sp j t ∧ q < W.pos j t)) W.n
theorem parity (hW : W.Simple) (q : Rat) (t : Int) : (W.Nm q t + W.Np q t) % 2 = 0 := by
  unfold Nm Np
  rw [← sumN_add]
  have e : sumN (fun j => ind (W.Sp j (t - 1) ∧ q < W.pos j t) + ind (W.Sp j t ∧ q < W.pos j t)) W.n % 2 = sumN (fun j => ind (W.h j = t ∧ q < W.x j) + ind (W.h (W.s j) = t ∧ q < W.x (W.s j))) W.n % 2 := by
    apply sumN_mod
    intro j hj
    have hn := h_ne hW hj
    by_cases h1 : W.h j = t
    · have h2 : W.h (W.s j) ≠ t := fun e => hn (by omega)
      have h3 : W.pos j t = W.x j := by rw [← h1]; exact pos_start j
      rw [h3, ind_f (p := W.h (W.s j) = t ∧ q < W.x (W.s j)) (fun h => h2 h.1)]
      by_cases h4 : q < W.x j
      · rw [ind_t (p := W.h j = t ∧ q < W.x j) ⟨h1, h4⟩]
        by_cases h5 : W.h (W.s j) < t
        · rw [ind_t (p := W.Sp j (t - 1) ∧ q < W.x j) ⟨by unfold Sp; omega, h4⟩, ind_f (p := W.Sp j t ∧ q < W.x j) (fun h => by have := h.1; unfold Sp at this; omega)]
        · rw [ind_f (p := W.Sp j (t - 1) ∧ q < W.x j) (fun h => by have := h.1; unfold Sp at this; omega), ind_t (p := W.Sp j t ∧ q < W.x j) ⟨by unfold Sp; omega, h4⟩]
      · rw [ind_f (p := W.h j = t ∧ q < W.x j) (fun h => h4 h.2), ind_f (p := W.Sp j (t - 1) ∧ q < W.x j) (fun h => h4 h.2), ind_f (p := W.Sp j t ∧ q < W.x j) (fun h => h4 h.2)]
    · by_cases h2 : W.h (W.s j) = t
      · have h3 : W.pos j t = W.x (W.s j) := by rw [← h2]; exact pos_end hW hj
        rw [h3, ind_f (p := W.h j = t ∧ q < W.x j) (fun h => h1 h.1)]
        by_cases h4 : q < W.x (W.s j)
        · rw [ind_t (p := W.h (W.s j) = t ∧ q < W.x (W.s j)) ⟨h2, h4⟩]
          by_cases h5 : W.h j < t
          · rw [ind_t (p := W.Sp j (t - 1) ∧ q < W.x (W.s j)) ⟨by unfold Sp; omega, h4⟩, ind_f (p := W.Sp j t ∧ q < W.x (W.s j)) (fun h => by have := h.1; unfold Sp at this; omega)]
          · rw [ind_f (p := W.Sp j (t - 1) ∧ q < W.x (W.s j)) (fun h => by have := h.1; unfold Sp at this; omega), ind_t (p := W.Sp j t ∧ q < W.x (W.s j)) ⟨by unfold Sp; omega, h4⟩]
        · rw [ind_f (p := W.h (W.s j) = t ∧ q < W.x (W.s j)) (fun h => h4 h.2), ind_f (p := W.Sp j (t - 1) ∧ q < W.x (W.s j)) (fun h => h4 h.2), ind_f (p := W.Sp j t ∧ q < W.x (W.s j)) (fun h => h4 h.2)]
      · have e : W.Sp j (t - 1) ↔ W.Sp j t := by unfold Sp; omega
        rw [e, ind_f (p := W.h j = t ∧ q < W.x j) (fun h => h1 h.1), ind_f (p := W.h (W.s j) = t ∧ q < W.x (W.s j)) (fun h => h2 h.1)]
        omega
  rw [e, sumN_add]
  have : sumN (fun j => ind (W.h (W.s j) = t ∧ q < W.x (W.s j))) W.n = sumN (fun j => ind (W.h j = t ∧ q < W.x j)) W.n := sumN_nx (fun j => ind (W.h j = t ∧ q < W.x j)) W.n
  omega
end Walk
end Go.Proofs.Ytbackoeakepngaa.Area
namespace Go.Proofs.Ytbackoeakepngaa.Area
open Classical
namespace Walk
variable {W : Walk}
theorem s_inj {i j : Nat} (hi : i < W.n) (hj : j < W.n) (h : W.s i = W.s j) : i = j := by
  unfold s nx at h; split at h <;> split at h <;> omega
noncomputable def Ex (W : Walk) (i : Nat) (T : Int) (a : Rat) : Nat := sumN (fun j => ind (W.Sp j T ∧ W.pos i a = W.pos j a ∧ W.pos i (T + 1/2) < W.pos j (T + 1/2))) W.n
noncomputable def Nx (W : Walk) (i : Nat) (T : Int) (a : Rat) : Nat := sumN (fun j => ind (W.Sp j T ∧ W.pos i a < W.pos j a)) W.n
theorem split_r (hW : W.Simple) {i : Nat} (hi : i < W.n) {T : Int} (si : W.Sp i T) {a : Rat} (ha : a = T ∨ a = T + 1) : W.r i T = W.Nx i T a + W.Ex i T a := by
  unfold r Nx Ex
  rw [← sumN_add]
  apply sumN_congr
  intro j hj
  by_cases h1 : W.Sp j T
  · by_cases h2 : W.pos i a < W.pos j a
    · have h3 := ord hW hi hj si h1 ha h2
      rw [ind_t ⟨h1, h3⟩, ind_t ⟨h1, h2⟩, ind_f (fun h => by have := h.2.1; grind)]
    · by_cases h4 : W.pos j a < W.pos i a
      · have h3 := ord hW hj hi h1 si ha h4
        rw [ind_f (fun h => by have := h.2; grind), ind_f (fun h => by have := h.2; grind), ind_f (fun h => by have := h.2.1; grind)]
      · have e : W.pos i a = W.pos j a := by grind
        rw [ind_f (p := W.Sp j T ∧ W.pos i a < W.pos j a) (fun h => h2 h.2)]
        by_cases h5 : W.pos i (T + 1/2) < W.pos j (T + 1/2)
        · rw [ind_t ⟨h1, h5⟩, ind_t ⟨h1, e, h5⟩]
        · rw [ind_f (fun h => h5 h.2), ind_f (fun h => h5 h.2.2)]
  · rw [ind_f (fun h => h1 h.1), ind_f (fun h => h1 h.1), ind_f (fun h => h1 h.1)]
theorem Nx_top (i : Nat) (t : Int) : W.Nx i (t - 1) t = W.Nm (W.pos i t) t := rfl
theorem Nx_low (i : Nat) (t : Int) : W.Nx i t t = W.Np (W.pos i t) t := rfl
theorem Sp.cl_at {j : Nat} {T t : Int} (h : W.Sp j T) (ht : t = T ∨ t = T + 1) : W.Cl j t := by
  rcases ht with rfl | rfl
  · exact h.cl (by grind) (by grind)
  · exact h.cl (by grind) (by grind)
theorem Ex_one (hW : W.Simple) {i k : Nat} (hi : i < W.n) (hk : k < W.n) {T t : Int} (si : W.Sp i T) (ht : t = T ∨ t = T + 1)
    (h : ∀ j, j < W.n → j ≠ i → ((W.s i = j ∧ t = W.h j) ∨ (W.s j = i ∧ t = W.h i)) → j = k) (e : W.pos i t = W.pos k t) : W.Ex i T t = ind (W.Sp k T ∧ W.pos i (T + 1/2) < W.pos k (T + 1/2)) := by
  unfold Ex
  rw [sumN_one (i := k) hk]
  · by_cases h1 : W.Sp k T ∧ W.pos i (T + 1/2) < W.pos k (T + 1/2)
    · rw [ind_t h1, ind_t ⟨h1.1, e, h1.2⟩]
    · rw [ind_f h1, ind_f (fun h => h1 ⟨h.1, h.2.2⟩)]
  · intro j hj hjk
    apply ind_f
    rintro ⟨h1, h2, h3⟩
    by_cases hji : j = i
    · subst hji; grind
    · refine hjk (h j hj hji ?_)
      rcases hW.meet i j hi hj (fun e => hji e.symm) t (si.cl_at ht) (h1.cl_at ht) h2 with ⟨a, b⟩ | ⟨a, b⟩
      · exact .inl ⟨a, eq_cast.1 b⟩
      · exact .inr ⟨a, eq_cast.1 b⟩
theorem cast_or {T t : Int} (ht : t = T ∨ t = T + 1) : (t : Rat) = T ∨ (t : Rat) = T + 1 := by
  rcases ht with rfl | rfl
  · exact .inl rfl
  · right; grind
theorem pass (hW : W.Simple) {i : Nat} (hi : i < W.n) {t : Int} (s1 : W.Sp i (t - 1)) (s2 : W.Sp i t) : W.r i (t - 1) % 2 = W.r i t % 2 := by
  have hp := parity hW (W.pos i t) t
  have n1 : W.h i ≠ t := by unfold Sp at s1 s2; omega
  have n2 : W.h (W.s i) ≠ t := by unfold Sp at s1 s2; omega
  have e1 : W.Ex i (t - 1) t = 0 := by
    rw [Ex_one hW hi hi s1 (by omega) (fun j hj hji h => by
      rcases h with ⟨a, b⟩ | ⟨a, b⟩
      · subst a; omega
      · omega) rfl]
    exact ind_f (fun h => by have := h.2; grind)
  have e2 : W.Ex i t t = 0 := by
    rw [Ex_one hW hi hi s2 (by omega) (fun j hj hji h => by
      rcases h with ⟨a, b⟩ | ⟨a, b⟩
      · subst a; omega
      · omega) rfl]
    exact ind_f (fun h => by have := h.2; grind)
  rw [split_r hW hi s1 (cast_or (t := t) (by omega)), split_r hW hi s2 (cast_or (t := t) (by omega)), Nx_top, Nx_low, e1, e2]
  omega
theorem Ex_i (hW : W.Simple) {i : Nat} (hi : i < W.n) {T : Int} (si : W.Sp i T) (ht : W.h (W.s i) = T ∨ W.h (W.s i) = T + 1) :
    W.Ex i T (W.h (W.s i)) = ind (W.Sp (W.s i) T ∧ W.pos i (T + 1/2) < W.pos (W.s i) (T + 1/2)) := by
  refine Ex_one hW hi (s_lt hi) si ht (fun j hj hji h => ?_) ?_
  · rcases h with ⟨a, b⟩ | ⟨a, b⟩
    · exact a.symm
    · exact absurd b (h_ne hW hi)
  · rw [pos_end hW hi, pos_start]
theorem Ex_v (hW : W.Simple) {i : Nat} (hi : i < W.n) {T : Int} (sv : W.Sp (W.s i) T) (ht : W.h (W.s i) = T ∨ W.h (W.s i) = T + 1) :
    W.Ex (W.s i) T (W.h (W.s i)) = ind (W.Sp i T ∧ W.pos (W.s i) (T + 1/2) < W.pos i (T + 1/2)) := by
  refine Ex_one hW (s_lt hi) hi sv ht (fun j hj hji h => ?_) ?_
  · rcases h with ⟨a, b⟩ | ⟨a, b⟩
    · exact absurd (by rw [a]; exact b.symm) (h_ne hW (s_lt hi))
    · exact s_inj hj hi a
  · rw [pos_end hW hi, pos_start]
def Up (W : Walk) (i : Nat) : Prop := W.h i < W.h (W.s i)
noncomputable def C (W : Walk) (i : Nat) (t : Int) : Nat := (ind (W.Up i) + W.r i t) % 2
theorem next (hW : W.Simple) {i : Nat} (hi : i < W.n) : ∃ T T', W.Sp i T ∧ W.Sp (W.s i) T' ∧ W.C i T = W.C (W.s i) T' := by
  have hv := s_lt hi
  have h1 := h_ne hW hi
  have h2 := h_ne hW hv
  obtain ⟨t, ht⟩ : ∃ t, t = W.h (W.s i) := ⟨_, rfl⟩
  have hp := parity hW (W.x (W.s i)) t
  have pi : W.pos i t = W.x (W.s i) := by rw [ht]; exact pos_end hW hi
  have pv : W.pos (W.s i) t = W.x (W.s i) := by rw [ht]; exact pos_start _
  by_cases u1 : W.h i < W.h (W.s i)
  · have s1 : W.Sp i (t - 1) := by unfold Sp; omega
    have r1 := split_r hW hi s1 (cast_or (t := t) (by omega))
    have x1 := Ex_i hW hi s1 (by omega)
    rw [← ht] at x1
    rw [Nx_top, pi, x1] at r1
    by_cases u2 : W.h (W.s i) < W.h (W.s (W.s i))
    · have s2 : W.Sp (W.s i) t := by unfold Sp; omega
      have r2 := split_r hW hv s2 (cast_or (t := t) (by omega))
      have x2 := Ex_v hW hi s2 (by omega)
      rw [← ht] at x2
      rw [Nx_low, pv, x2] at r2
      rw [ind_f (fun h => by have := h.1; unfold Sp at this; omega)] at r1 r2
      exact ⟨t - 1, t, s1, s2, by unfold C; rw [ind_t (show W.Up i from u1), ind_t (show W.Up (W.s i) from u2)]; omega⟩
    · have s2 : W.Sp (W.s i) (t - 1) := by unfold Sp; omega
      have r2 := split_r hW hv s2 (cast_or (t := t) (by omega))
      have x2 := Ex_v hW hi s2 (by omega)
      rw [← ht] at x2
      rw [Nx_top, pv, x2] at r2
      have hne := mid_ne hW hi hv s1 s2 (fun e => s_ne hW hi e.symm)
      refine ⟨t - 1, t - 1, s1, s2, ?_⟩
      unfold C
      rw [ind_t (show W.Up i from u1), ind_f (show ¬ W.Up (W.s i) from u2)]
      by_cases hl : W.pos i ((t - 1 : Int) + 1/2) < W.pos (W.s i) ((t - 1 : Int) + 1/2)
      · rw [ind_t ⟨s2, hl⟩] at r1
        rw [ind_f (fun h => by have := h.2; grind)] at r2
        omega
      · rw [ind_f (fun h => hl h.2)] at r1
        rw [ind_t ⟨s1, by grind⟩] at r2
        omega
  · have s1 : W.Sp i t := by unfold Sp; omega
    have r1 := split_r hW hi s1 (cast_or (t := t) (by omega))
    have x1 := Ex_i hW hi s1 (by omega)
    rw [← ht] at x1
    rw [Nx_low, pi, x1] at r1
    by_cases u2 : W.h (W.s i) < W.h (W.s (W.s i))
    · have s2 : W.Sp (W.s i) t := by unfold Sp; omega
      have r2 := split_r hW hv s2 (cast_or (t := t) (by omega))
      have x2 := Ex_v hW hi s2 (by omega)
      rw [← ht] at x2
      rw [Nx_low, pv, x2] at r2
      have hne := mid_ne hW hi hv s1 s2 (fun e => s_ne hW hi e.symm)
      refine ⟨t, t, s1, s2, ?_⟩
      unfold C
      rw [ind_f (show ¬ W.Up i from u1), ind_t (show W.Up (W.s i) from u2)]
      by_cases hl : W.pos i (t + 1/2) < W.pos (W.s i) (t + 1/2)
      · rw [ind_t ⟨s2, hl⟩] at r1
        rw [ind_f (fun h => by have := h.2; grind)] at r2
        omega
      · rw [ind_f (fun h => hl h.2)] at r1
        rw [ind_t ⟨s1, by grind⟩] at r2
        omega
    · have s2 : W.Sp (W.s i) (t - 1) := by unfold Sp; omega
      have r2 := split_r hW hv s2 (cast_or (t := t) (by omega))
      have x2 := Ex_v hW hi s2 (by omega)
      rw [← ht] at x2
      rw [Nx_top, pv, x2] at r2
      rw [ind_f (fun h => by have := h.1; unfold Sp at this; omega)] at r1 r2
      exact ⟨t, t - 1, s1, s2, by unfold C; rw [ind_f (show ¬ W.Up i from u1), ind_f (show ¬ W.Up (W.s i) from u2)]; omega⟩
theorem pass_up (hW : W.Simple) {i : Nat} (hi : i < W.n) {t : Int} (s1 : W.Sp i t) : ∀ m : Nat, W.Sp i (t + m) → W.r i t % 2 = W.r i (t + m) % 2
  | 0, _ => by simp
  | m + 1, s2 => by
    have s3 : W.Sp i (t + m) := by unfold Sp at *; omega
    have e : (t + ((m + 1 : Nat) : Int)) - 1 = t + m := by omega
    rw [pass_up hW hi s1 m s3, ← pass hW hi (t := t + ((m + 1 : Nat) : Int)) (by rw [e]; exact s3) s2, e]
theorem C_any (hW : W.Simple) {i : Nat} (hi : i < W.n) {t t' : Int} (s1 : W.Sp i t) (s2 : W.Sp i t') : W.C i t = W.C i t' := by
  have : W.r i t % 2 = W.r i t' % 2 := by
    by_cases h : t ≤ t'
    · have e : t' = t + ((t' - t).toNat : Nat) := by omega
      rw [e]; exact pass_up hW hi s1 _ (by rw [← e]; exact s2)
    · have e : t = t' + ((t - t').toNat : Nat) := by omega
      rw [e]; exact (pass_up hW hi s2 _ (by rw [← e]; exact s1)).symm
  unfold C; omega
theorem one_side (hW : W.Simple) : ∃ c, c < 2 ∧ ∀ i, i < W.n → ∀ t, W.Sp i t → W.C i t = c := by
  have h3 := hW.three
  obtain ⟨T0, _, s0, _, _⟩ := next hW (i := 0) (by omega)
  refine ⟨W.C 0 T0, by unfold C; omega, ?_⟩
  intro i
  induction i with
  | zero => intro hi t st; exact C_any hW hi st s0
  | succ i ih =>
    intro hi t st
    obtain ⟨T, T', s1, s2, e⟩ := next hW (i := i) (by omega)
    have hs : W.s i = i + 1 := by unfold s nx; rw [if_neg (by omega)]
    rw [hs] at s2 e
    rw [C_any hW hi st s2, ← e]
    exact ih (by omega) T s1
end Walk
end Go.Proofs.Ytbackoeakepngaa.Area
namespace Go.Proofs.Ytbackoeakepngaa.Area
open Classical
def sumQ (f : Nat → Rat) : Nat → Rat
  | 0 => 0
  | n + 1 => sumQ f n + f n
theorem sumQ_congr {f g : Nat → Rat} : ∀ {n}, (∀ j, j < n → f j = g j) → sumQ f n = sumQ g n
  | 0, _ => rfl
  | n + 1, h => by
    have := sumQ_congr (n := n) (fun j hj => h j (by omega))
    simp only [sumQ]; rw [this, h n (by omega)]
theorem sumQ_add (f g : Nat → Rat) : ∀ n, sumQ (fun j => f j + g j) n = sumQ f n + sumQ g n
  | 0 => by simp only [sumQ]; grind
  | n + 1 => by simp only [sumQ]; rw [sumQ_add f g n]; grind
theorem sumQ_zero : ∀ n, sumQ (fun _ => 0) n = 0
  | 0 => rfl
  | n + 1 => by simp only [sumQ]; rw [sumQ_zero n]; grind
theorem sumQ_nonneg {f : Nat → Rat} : ∀ {n}, (∀ j, j < n → 0 ≤ f j) → 0 ≤ sumQ f n
  | 0, _ => by simp only [sumQ]; grind
  | n + 1, h => by
    have := sumQ_nonneg (n := n) (fun j hj => h j (by omega))
    have := h n (by omega)
    simp only [sumQ]; grind
theorem sumQ_pos {f : Nat → Rat} {i : Nat} (h0 : 0 < f i) : ∀ {n}, i < n → (∀ j, j < n → 0 ≤ f j) → 0 < sumQ f n
  | 0, h, _ => by omega
  | n + 1, h, hf => by
    simp only [sumQ]
    by_cases hi : i = n
    · subst hi
      have := sumQ_nonneg (f := f) (n := i) (fun j hj => hf j (by omega))
      grind
    · have := sumQ_pos h0 (n := n) (by omega) (fun j hj => hf j (by omega))
      have := hf n (by omega)
      grind
theorem sumQ_one {f : Nat → Rat} {i : Nat} : ∀ {n}, i < n → (∀ j, j < n → j ≠ i → f j = 0) → sumQ f n = f i
  | 0, h, _ => by omega
  | n + 1, h, h0 => by
    simp only [sumQ]
    by_cases hi : i = n
    · subst hi
      have : sumQ f i = 0 := by
        rw [sumQ_congr (g := fun _ => 0) (fun j hj => h0 j (by omega) (by omega)), sumQ_zero]
      grind
    · rw [sumQ_one (i := i) (n := n) (by omega) (fun j hj => h0 j (by omega)), h0 n (by omega) (by omega)]; grind
theorem sumQ_comm (f : Nat → Nat → Rat) (m : Nat) : ∀ n, sumQ (fun i => sumQ (fun t => f i t) m) n = sumQ (fun t => sumQ (fun i => f i t) n) m
  | 0 => by simp only [sumQ]; rw [sumQ_zero]
  | n + 1 => by simp only [sumQ]; rw [sumQ_comm f m n, ← sumQ_add]
theorem sumQ_succ' (f : Nat → Rat) : ∀ n, sumQ f (n + 1) = f 0 + sumQ (fun j => f (j + 1)) n
  | 0 => by simp only [sumQ]; grind
  | n + 1 => by rw [sumQ, sumQ_succ' f n]; simp only [sumQ]; grind
theorem sumQ_nx (f : Nat → Rat) (n : Nat) : sumQ (fun j => f (nx n j)) n = sumQ f n := by
  cases n with
  | zero => rfl
  | succ n =>
    rw [sumQ_succ' f n]
    simp only [sumQ]
    have h1 : nx (n + 1) n = 0 := by unfold nx; simp
    have h2 : sumQ (fun j => f (nx (n + 1) j)) n = sumQ (fun j => f (j + 1)) n := sumQ_congr (fun j hj => by
      have : nx (n + 1) j = j + 1 := by unfold nx; rw [if_neg (by omega)]
      simp only [this])
    rw [h1, h2]; grind
noncomputable def sg (k : Nat) : Rat := if k % 2 = 0 then 1 else -1
noncomputable def rk (n : Nat) (I : Nat → Prop) (p : Nat → Rat) (i : Nat) : Nat := sumN (fun j => Walk.ind (I j ∧ p i < p j)) n
noncomputable def D (n : Nat) (I : Nat → Prop) (p : Nat → Rat) : Rat := sumQ (fun i => if I i then sg (rk n I p i) * p i else 0) n
noncomputable def card (n : Nat) (I : Nat → Prop) : Nat := sumN (fun i => Walk.ind (I i)) n
theorem exists_max (p : Nat → Rat) : ∀ (n : Nat) (I : Nat → Prop), (∃ i, i < n ∧ I i) → ∃ m, m < n ∧ I m ∧ ∀ j, j < n → I j → p j ≤ p m
  | 0, _, ⟨i, h, _⟩ => by omega
  | n + 1, I, ⟨i, hi, hI⟩ => by
    by_cases h : ∃ i, i < n ∧ I i
    · obtain ⟨m, h1, h2, h3⟩ := exists_max p n I h
      by_cases hn : I n ∧ p m < p n
      · refine ⟨n, by omega, hn.1, fun j hj hIj => ?_⟩
        by_cases hjn : j = n
        · subst hjn; grind
        · have := h3 j (by omega) hIj; grind
      · refine ⟨m, by omega, h2, fun j hj hIj => ?_⟩
        by_cases hjn : j = n
        · subst hjn; grind
        · exact h3 j (by omega) hIj
    · have : i = n := by
        apply Classical.byContradiction
        intro e
        exact h ⟨i, by omega, hI⟩
      subst this
      refine ⟨i, by omega, hI, fun j hj hIj => ?_⟩
      by_cases hji : j = i
      · subst hji; grind
      · exact absurd ⟨j, by omega, hIj⟩ h
theorem sumN_zero : ∀ n, sumN (fun _ => 0) n = 0
  | 0 => rfl
  | n + 1 => by simp only [sumN]; rw [sumN_zero n]
theorem sumN_ge {f : Nat → Nat} {i : Nat} : ∀ {n}, i < n → f i ≤ sumN f n
  | 0, h => by omega
  | n + 1, h => by
    simp only [sumN]
    by_cases hi : i = n
    · subst hi; omega
    · have := sumN_ge (f := f) (i := i) (n := n) (by omega); omega
theorem card_del {n m : Nat} {I : Nat → Prop} (hm : m < n) (h : I m) : card n I = card n (fun j => I j ∧ j ≠ m) + 1 := by
  unfold card
  have e : sumN (fun j => Walk.ind (j = m)) n = 1 := by
    rw [sumN_one (i := m) hm (fun j _ hj => Walk.ind_f hj)]; exact Walk.ind_t rfl
  rw [← e, ← sumN_add]
  apply sumN_congr
  intro j hj
  by_cases h1 : j = m
  · subst h1; rw [Walk.ind_t h, Walk.ind_f (fun hh => hh.2 rfl), Walk.ind_t rfl]
  · by_cases h2 : I j
    · rw [Walk.ind_t h2, Walk.ind_t ⟨h2, h1⟩, Walk.ind_f h1]
    · rw [Walk.ind_f h2, Walk.ind_f (fun hh => h2 hh.1), Walk.ind_f h1]
theorem card_pos {n : Nat} {I : Nat → Prop} (h : 0 < card n I) : ∃ i, i < n ∧ I i := by
  apply Classical.byContradiction
  intro hc
  have : card n I = 0 := by
    unfold card
    rw [sumN_congr (g := fun _ => 0) (fun j hj => Walk.ind_f (fun hI => hc ⟨j, hj, hI⟩)), sumN_zero]
  omega
theorem D_pos (n : Nat) (p : Nat → Rat) : ∀ (k : Nat) (I : Nat → Prop), card n I = 2 * k → (∀ i j, i < n → j < n → I i → I j → p i = p j → i = j) → 0 ≤ D n I p ∧ (0 < k → 0 < D n I p)
  | 0, I, hk, _ => by
    have : D n I p = 0 := by
      unfold D
      rw [sumQ_congr (g := fun _ => 0) (fun j hj => ?_), sumQ_zero]
      rw [if_neg]
      intro hI
      have := sumN_ge (f := fun i => Walk.ind (I i)) hj
      unfold card at hk
      rw [Walk.ind_t hI] at this
      omega
    rw [this]
    exact ⟨by grind, fun h => by omega⟩
  | k + 1, I, hk, hp => by
    obtain ⟨m, m1, m2, m3⟩ := exists_max p n I (card_pos (by omega))
    have c1 := card_del m1 m2
    obtain ⟨q, q1, q2, q3⟩ := exists_max p n (fun j => I j ∧ j ≠ m) (card_pos (by omega))
    have c2 := card_del (I := fun j => I j ∧ j ≠ m) q1 q2
    have ih := D_pos n p k (fun j => (I j ∧ j ≠ m) ∧ j ≠ q) (by omega) (fun i j hi hj h1 h2 => hp i j hi hj h1.1.1 h2.1.1)
    have lt1 : p q < p m := by
      have h1 := m3 q q1 q2.1
      have h2 : p q ≠ p m := fun e => q2.2 (hp q m q1 m1 q2.1 m2 e)
      grind
    -- the ranks
    have rm : rk n I p m = 0 := by
      unfold rk
      rw [sumN_congr (g := fun _ => 0) (fun j hj => Walk.ind_f (fun h => by have := m3 j hj h.1; grind)), sumN_zero]
    have rq : rk n I p q = 1 := by
      unfold rk
      rw [sumN_one (i := m) m1 (fun j hj hjm => Walk.ind_f (fun h => by have := q3 j hj ⟨h.1, hjm⟩; grind))]
      exact Walk.ind_t ⟨m2, lt1⟩
    have ro : ∀ i, i < n → I i → i ≠ m → i ≠ q → rk n I p i = rk n (fun j => (I j ∧ j ≠ m) ∧ j ≠ q) p i + 2 := by
      intro i hi hI him hiq
      have l1 : p i < p q := by
        have h1 := q3 i hi ⟨hI, him⟩
        have h2 : p i ≠ p q := fun e => hiq (hp i q hi q1 hI q2.1 e)
        grind
      unfold rk
      have e1 : sumN (fun j => Walk.ind (j = m)) n = 1 := by
        rw [sumN_one (i := m) m1 (fun j _ hj => Walk.ind_f hj)]; exact Walk.ind_t rfl
      have e2 : sumN (fun j => Walk.ind (j = q)) n = 1 := by
        rw [sumN_one (i := q) q1 (fun j _ hj => Walk.ind_f hj)]; exact Walk.ind_t rfl
      have e3 : sumN (fun j => Walk.ind (I j ∧ p i < p j)) n = sumN (fun j => (Walk.ind (((I j ∧ j ≠ m) ∧ j ≠ q) ∧ p i < p j) + Walk.ind (j = m)) + Walk.ind (j = q)) n := by
        apply sumN_congr
        intro j hj
        by_cases h1 : j = m
        · subst h1
          rw [Walk.ind_t ⟨m2, by grind⟩, Walk.ind_f (fun h => h.1.1.2 rfl), Walk.ind_t rfl, Walk.ind_f (fun h => q2.2 h.symm)]
        · by_cases h2 : j = q
          · subst h2
            rw [Walk.ind_t ⟨q2.1, l1⟩, Walk.ind_f (fun h => h.1.2 rfl), Walk.ind_f h1, Walk.ind_t rfl]
          · by_cases h3 : I j ∧ p i < p j
            · rw [Walk.ind_t h3, Walk.ind_t ⟨⟨⟨h3.1, h1⟩, h2⟩, h3.2⟩, Walk.ind_f h1, Walk.ind_f h2]
            · rw [Walk.ind_f h3, Walk.ind_f (fun h => h3 ⟨h.1.1.1, h.2⟩), Walk.ind_f h1, Walk.ind_f h2]
      rw [e3, sumN_add, sumN_add, e1, e2]
    have e : D n I p = D n (fun j => (I j ∧ j ≠ m) ∧ j ≠ q) p + (p m - p q) := by
      unfold D
      have e1 : sumQ (fun j => if j = m then p m else 0) n = p m := by
        rw [sumQ_one (i := m) m1 (fun j _ hj => if_neg hj)]; exact if_pos rfl
      have e2 : sumQ (fun j => if j = q then - p q else 0) n = - p q := by
        rw [sumQ_one (i := q) q1 (fun j _ hj => if_neg hj)]; exact if_pos rfl
      have e3 : p m - p q = p m + - p q := by grind
      rw [e3]
      conv => rhs; rw [← e1, ← e2]
      rw [← sumQ_add, ← sumQ_add]
      apply sumQ_congr
      intro j hj
      by_cases h1 : j = m
      · subst h1
        rw [if_pos m2, if_neg (fun h => h.1.2 rfl), if_pos rfl, if_neg (fun h => q2.2 h.symm), rm]
        unfold sg; grind
      · by_cases h2 : j = q
        · subst h2
          rw [if_pos q2.1, if_neg (fun h => h.2 rfl), if_neg h1, if_pos rfl, rq]
          unfold sg; grind
        · by_cases h3 : I j
          · rw [if_pos h3, if_pos ⟨⟨h3, h1⟩, h2⟩, if_neg h1, if_neg h2, ro j hj h3 h1 h2]
            have : sg (rk n (fun j => (I j ∧ j ≠ m) ∧ j ≠ q) p j + 2) = sg (rk n (fun j => (I j ∧ j ≠ m) ∧ j ≠ q) p j) := by
              unfold sg; rw [Nat.add_mod_right]
            rw [this]; grind
          · rw [if_neg h3, if_neg (fun h => h3 h.1.1), if_neg h1, if_neg h2]; grind
    rw [e]
    constructor
    · grind
    · intro _; grind
end Go.Proofs.Ytbackoeakepngaa.Area
namespace Go.Proofs.Ytbackoeakepngaa.Area
open Classical
namespace Walk
variable {W : Walk}
noncomputable def part (W : Walk) (i : Nat) (t : Int) : Rat := if W.Sp i t then (if W.Up i then W.pos i (t + 1/2) else - W.pos i (t + 1/2)) else 0
noncomputable def F (W : Walk) (i : Nat) (t : Rat) : Rat := 2 * (W.x i - W.K i * W.h i) * t + W.K i * t * t
theorem F_step (i : Nat) (t : Rat) : W.F i (t + 1) - W.F i t = 2 * W.pos i (t + 1/2) := by unfold F; rw [pos_eq]; grind
theorem F_diff (hW : W.Simple) {i : Nat} (hi : i < W.n) : W.F i (W.h (W.s i)) - W.F i (W.h i) = (W.x i + W.x (W.s i)) * (W.h (W.s i) - W.h i) := by
  have h1 := pos_end hW hi
  have h2 := pos_start (W := W) i
  rw [pos_eq] at h1 h2
  unfold F; grind
theorem sum_parts (hW : W.Simple) {i : Nat} (hi : i < W.n) {M : Nat} (h0 : 0 ≤ W.h i ∧ W.h i ≤ M) (h1 : 0 ≤ W.h (W.s i) ∧ W.h (W.s i) ≤ M) :
    sumQ (fun t => 2 * W.part i (t : Int)) M = (W.x i + W.x (W.s i)) * (W.h (W.s i) - W.h i) := by
  rw [← F_diff hW hi]
  have key : ∀ m : Nat, sumQ (fun t => 2 * W.part i (t : Int)) m = if W.Up i then W.F i ((max (W.h i) (min m (W.h (W.s i))) : Int) : Rat) - W.F i (W.h i) else W.F i (W.h (W.s i)) - W.F i ((max (W.h (W.s i)) (min m (W.h i)) : Int) : Rat) := by
    intro m
    induction m with
    | zero =>
      simp only [sumQ]
      by_cases hu : W.Up i
      · rw [if_pos hu]
        have : max (W.h i) (min (0 : Nat) (W.h (W.s i))) = W.h i := by omega
        rw [this]; grind
      · rw [if_neg hu]
        have : max (W.h (W.s i)) (min (0 : Nat) (W.h i)) = W.h (W.s i) := by unfold Up at hu; omega
        rw [this]; grind
    | succ m ih =>
      simp only [sumQ]
      rw [ih]
      have hs := F_step (W := W) i (m : Int)
      have e1 : (((m : Int) : Rat) + 1) = ((m + 1 : Int) : Rat) := by grind
      rw [e1] at hs
      unfold part
      by_cases hu : W.Up i
      · rw [if_pos hu, if_pos hu, if_pos hu]
        unfold Up at hu
        by_cases hsp : W.Sp i (m : Int)
        · rw [if_pos hsp]
          have e2 : max (W.h i) (min (m : Nat) (W.h (W.s i))) = (m : Int) := by unfold Sp at hsp; omega
          have e3 : max (W.h i) (min ((m + 1 : Nat) : Int) (W.h (W.s i))) = (m + 1 : Int) := by unfold Sp at hsp; omega
          rw [e2, e3]; grind
        · rw [if_neg hsp]
          have e2 : max (W.h i) (min ((m + 1 : Nat) : Int) (W.h (W.s i))) = max (W.h i) (min (m : Nat) (W.h (W.s i))) := by unfold Sp at hsp; omega
          rw [e2]; grind
      · rw [if_neg hu, if_neg hu, if_neg hu]
        unfold Up at hu
        by_cases hsp : W.Sp i (m : Int)
        · rw [if_pos hsp]
          have e2 : max (W.h (W.s i)) (min (m : Nat) (W.h i)) = (m : Int) := by unfold Sp at hsp; omega
          have e3 : max (W.h (W.s i)) (min ((m + 1 : Nat) : Int) (W.h i)) = (m + 1 : Int) := by unfold Sp at hsp; omega
          rw [e2, e3]; grind
        · rw [if_neg hsp]
          have e2 : max (W.h (W.s i)) (min ((m + 1 : Nat) : Int) (W.h i)) = max (W.h (W.s i)) (min (m : Nat) (W.h i)) := by unfold Sp at hsp; omega
          rw [e2]; grind
  rw [key M]
  have h2 := h_ne hW hi
  by_cases hu : W.Up i
  · rw [if_pos hu]
    have : max (W.h i) (min (M : Nat) (W.h (W.s i))) = W.h (W.s i) := by unfold Up at hu; omega
    rw [this]
  · rw [if_neg hu]
    have : max (W.h (W.s i)) (min (M : Nat) (W.h i)) = W.h i := by unfold Up at hu; omega
    rw [this]
theorem even_card (t : Int) : card W.n (fun i => W.Sp i t) % 2 = 0 := by
  unfold card
  have e : sumN (fun i => ind (W.Sp i t)) W.n % 2 = sumN (fun i => ind (t < W.h i) + ind (t < W.h (W.s i))) W.n % 2 := by
    apply sumN_mod
    intro i _
    by_cases h1 : t < W.h i <;> by_cases h2 : t < W.h (W.s i)
    · rw [ind_f (fun h => by unfold Sp at h; omega), ind_t h1, ind_t h2]
    · rw [ind_t (p := W.Sp i t) (by unfold Sp; omega), ind_t h1, ind_f h2]
    · rw [ind_t (p := W.Sp i t) (by unfold Sp; omega), ind_f h1, ind_t h2]
    · rw [ind_f (fun h => by unfold Sp at h; omega), ind_f h1, ind_f h2]
  rw [e, sumN_add]
  have : sumN (fun i => ind (t < W.h (W.s i))) W.n = sumN (fun i => ind (t < W.h i)) W.n := sumN_nx (fun i => ind (t < W.h i)) W.n
  omega
theorem strip_sign (hW : W.Simple) {c : Nat} (hc : c < 2) (h : ∀ i, i < W.n → ∀ t, W.Sp i t → W.C i t = c) (t : Int) :
    sumQ (fun i => W.part i t) W.n = (if c = 1 then 1 else -1) * D W.n (fun i => W.Sp i t) (fun i => W.pos i (t + 1/2)) := by
  unfold D
  have e : ∀ f : Nat → Rat, ∀ m, (if c = 1 then (1 : Rat) else -1) * sumQ f m = sumQ (fun i => (if c = 1 then 1 else -1) * f i) m := by
    intro f m
    induction m with
    | zero => simp only [sumQ]; grind
    | succ m ih => simp only [sumQ]; rw [← ih]; grind
  rw [e]
  apply sumQ_congr
  intro i hi
  unfold part
  by_cases hs : W.Sp i t
  · rw [if_pos hs, if_pos hs]
    have hC := h i hi t hs
    unfold C at hC
    have er : rk W.n (fun i => W.Sp i t) (fun i => W.pos i (t + 1/2)) i = W.r i t := rfl
    rw [er]
    unfold sg
    by_cases hu : W.Up i
    · rw [if_pos hu]
      rw [ind_t hu] at hC
      by_cases hc1 : c = 1
      · rw [if_pos hc1, if_pos (by omega)]; grind
      · rw [if_neg hc1, if_neg (by omega)]; grind
    · rw [if_neg hu]
      rw [ind_f hu] at hC
      by_cases hc1 : c = 1
      · rw [if_pos hc1, if_neg (by omega)]; grind
      · rw [if_neg hc1, if_pos (by omega)]; grind
  · rw [if_neg hs, if_neg hs]; grind
theorem area_ne (hW : W.Simple) {M : Nat} (hM : ∀ i, i < W.n → 0 ≤ W.h i ∧ W.h i ≤ M) : sumQ (fun i => W.x i * W.h (W.s i) - W.h i * W.x (W.s i)) W.n ≠ 0 := by
  obtain ⟨c, hc, h⟩ := one_side hW
  have h3 := hW.three
  have e1 : sumQ (fun i => W.x i * W.h (W.s i) - W.h i * W.x (W.s i)) W.n = sumQ (fun i => (W.x i + W.x (W.s i)) * (W.h (W.s i) - W.h i)) W.n := by
    have e : sumQ (fun i => (W.x i * W.h (W.s i) - W.h i * W.x (W.s i)) + W.x (W.s i) * W.h (W.s i)) W.n = sumQ (fun i => (W.x i + W.x (W.s i)) * (W.h (W.s i) - W.h i) + W.x i * W.h i) W.n := sumQ_congr (fun j _ => by grind)
    rw [sumQ_add, sumQ_add] at e
    have e2 : sumQ (fun i => W.x (W.s i) * W.h (W.s i)) W.n = sumQ (fun i => W.x i * W.h i) W.n := sumQ_nx (fun i => W.x i * (W.h i : Rat)) W.n
    grind
  have e2 : sumQ (fun i => (W.x i + W.x (W.s i)) * (W.h (W.s i) - W.h i)) W.n = sumQ (fun i => sumQ (fun t => 2 * W.part i (t : Int)) M) W.n :=
    sumQ_congr (fun j hj => (sum_parts hW hj (hM j hj) (hM _ (s_lt hj))).symm)
  have dbl : ∀ (f : Nat → Rat) m, sumQ (fun i => 2 * f i) m = 2 * sumQ f m := by
    intro f m
    induction m with
    | zero => simp only [sumQ]; grind
    | succ m ih => simp only [sumQ]; rw [ih]; grind
  have e3 : sumQ (fun i => sumQ (fun t => 2 * W.part i (t : Int)) M) W.n = (if c = 1 then 1 else -1) * sumQ (fun t => 2 * D W.n (fun i => W.Sp i (t : Int)) (fun i => W.pos i (((t : Int) : Rat) + 1/2))) M := by
    rw [sumQ_comm]
    have : ∀ m : Nat, sumQ (fun t => sumQ (fun i => 2 * W.part i (t : Int)) W.n) m = (if c = 1 then 1 else -1) * sumQ (fun t => 2 * D W.n (fun i => W.Sp i (t : Int)) (fun i => W.pos i (((t : Int) : Rat) + 1/2))) m := by
      intro m
      induction m with
      | zero => simp only [sumQ]; grind
      | succ m ih =>
        simp only [sumQ]
        rw [ih, dbl (fun i => W.part i (m : Int)), strip_sign hW hc h]
        grind
    exact this M
  have dpos : ∀ t : Int, 0 ≤ D W.n (fun i => W.Sp i t) (fun i => W.pos i (t + 1/2)) ∧ ((∃ i, i < W.n ∧ W.Sp i t) → 0 < D W.n (fun i => W.Sp i t) (fun i => W.pos i (t + 1/2))) := by
    intro t
    have hev := even_card (W := W) t
    obtain ⟨k, hk⟩ : ∃ k, card W.n (fun i => W.Sp i t) = 2 * k := ⟨card W.n (fun i => W.Sp i t) / 2, by omega⟩
    have := D_pos W.n (fun i => W.pos i (t + 1/2)) k (fun i => W.Sp i t) hk (fun i j hi hj si sj e => Classical.byContradiction fun hn => mid_ne hW hi hj si sj hn e)
    refine ⟨this.1, fun ⟨i, hi, hs⟩ => this.2 ?_⟩
    have hge := sumN_ge (f := fun i => ind (W.Sp i t)) hi
    have hge1 : 1 ≤ sumN (fun i => ind (W.Sp i t)) W.n := by
      have e : ind (W.Sp i t) = 1 := ind_t hs
      rw [← e]; exact hge
    have hk' : sumN (fun i => ind (W.Sp i t)) W.n = 2 * k := hk
    omega
  -- a strip that edge 0 passes
  have n0 := h_ne hW (j := 0) (by omega)
  obtain ⟨t0, ht0⟩ : ∃ t0 : Int, t0 = min (W.h 0) (W.h (W.s 0)) := ⟨_, rfl⟩
  have b0 := hM 0 (by omega)
  have b1 := hM (W.s 0) (s_lt (by omega))
  have sp0 : W.Sp 0 t0 := by unfold Sp; omega
  have pos1 : 0 < sumQ (fun t => 2 * D W.n (fun i => W.Sp i (t : Int)) (fun i => W.pos i (((t : Int) : Rat) + 1/2))) M := by
    apply sumQ_pos (i := t0.toNat)
    · have e : ((t0.toNat : Nat) : Int) = t0 := by omega
      rw [e]
      have := (dpos t0).2 ⟨0, by omega, sp0⟩
      grind
    · omega
    · intro j _
      have := (dpos j).1
      grind
  rw [e1, e2, e3]
  intro hz
  by_cases hc1 : c = 1
  · rw [if_pos hc1] at hz; grind
  · rw [if_neg hc1] at hz; grind
end Walk
end Go.Proofs.Ytbackoeakepngaa.Area
namespace Go.Proofs.Ytbackoeakepngaa.Geo
open Area
theorem cast_key (p : Pt) : ((key p : Int) : Rat) = 1000 * (p.y : Rat) + p.x := by unfold key; grind
theorem cross_along {a b c d : Pt} {l m : Rat} (ex : (a.x : Rat) + l * ((b.x : Rat) - a.x) = (c.x : Rat) + m * ((d.x : Rat) - c.x)) (ey : (a.y : Rat) + l * ((b.y : Rat) - a.y) = (c.y : Rat) + m * ((d.y : Rat) - c.y)) :
    (1 - m) * ((cross a b c : Int) : Rat) + m * ((cross a b d : Int) : Rat) = 0 := by
  unfold cross
  simp only [Rat.intCast_sub, Rat.intCast_mul]
  grind
theorem between {a b : Int} {l : Rat} {c : Int} (h0 : 0 ≤ l) (h1 : l ≤ 1) (e : (a : Rat) + l * ((b : Rat) - a) = c) : min a b ≤ c ∧ c ≤ max a b := by
  have hab : a ≤ b ∨ b ≤ a := by omega
  rcases hab with h | h
  · have h' : (a : Rat) ≤ b := Rat.intCast_le_intCast.2 h
    have e1 : 0 ≤ l * ((b : Rat) - a) := Rat.mul_nonneg h0 (by grind)
    have e2 : 0 ≤ (1 - l) * ((b : Rat) - a) := Rat.mul_nonneg (by grind) (by grind)
    have f1 : (a : Rat) ≤ c := by grind
    have f2 : (c : Rat) ≤ b := by grind
    have := Rat.intCast_le_intCast.1 f1; have := Rat.intCast_le_intCast.1 f2; omega
  · have h' : (b : Rat) ≤ a := Rat.intCast_le_intCast.2 h
    have e1 : 0 ≤ l * ((a : Rat) - b) := Rat.mul_nonneg h0 (by grind)
    have e2 : 0 ≤ (1 - l) * ((a : Rat) - b) := Rat.mul_nonneg (by grind) (by grind)
    have f1 : (b : Rat) ≤ c := by grind
    have f2 : (c : Rat) ≤ a := by grind
    have := Rat.intCast_le_intCast.1 f1; have := Rat.intCast_le_intCast.1 f2; omega
theorem range_of {a b : Int} {l t : Rat} (h0 : 0 ≤ l) (h1 : l ≤ 1) (e : t = (a : Rat) + l * ((b : Rat) - a)) : ((min a b : Int) : Rat) ≤ t ∧ t ≤ ((max a b : Int) : Rat) := by
  have hab : a ≤ b ∨ b ≤ a := by omega
  rcases hab with h | h
  · have h' : (a : Rat) ≤ b := Rat.intCast_le_intCast.2 h
    have e1 : 0 ≤ l * ((b : Rat) - a) := Rat.mul_nonneg h0 (by grind)
    have e2 : 0 ≤ (1 - l) * ((b : Rat) - a) := Rat.mul_nonneg (by grind) (by grind)
    have : min a b = a := by omega
    have : max a b = b := by omega
    grind
  · have h' : (b : Rat) ≤ a := Rat.intCast_le_intCast.2 h
    have e1 : 0 ≤ l * ((a : Rat) - b) := Rat.mul_nonneg h0 (by grind)
    have e2 : 0 ≤ (1 - l) * ((a : Rat) - b) := Rat.mul_nonneg (by grind) (by grind)
    have : min a b = b := by omega
    have : max a b = a := by omega
    grind
theorem zero_cast {n : Int} : ((n : Int) : Rat) = 0 ↔ n = 0 := by
  constructor
  · intro h; exact Rat.intCast_inj.1 (by rw [h]; rfl)
  · intro h; rw [h]; rfl
theorem on_of {a b c : Pt} {l : Rat} (h0 : 0 ≤ l) (h1 : l ≤ 1) (hc : cross a b c = 0) (ex : (a.x : Rat) + l * ((b.x : Rat) - a.x) = c.x) (ey : (a.y : Rat) + l * ((b.y : Rat) - a.y) = c.y) : On a b c := by
  have := between h0 h1 ex
  have := between h0 h1 ey
  exact ⟨hc, by unfold InB; omega⟩
theorem opposite {α β : Int} {m : Rat} (h0 : 0 ≤ m) (h1 : m ≤ 1) (ha : α ≠ 0) (hb : β ≠ 0) (e : (1 - m) * (α : Rat) + m * (β : Rat) = 0) : sgn α * sgn β < 0 := by
  rw [sgn_mul_neg]
  have m0 : m ≠ 0 := by
    intro h; rw [h] at e
    exact ha (zero_cast.1 (by grind))
  have m1 : m ≠ 1 := by
    intro h; rw [h] at e
    exact hb (zero_cast.1 (by grind))
  by_cases h : 0 < α
  · left
    refine ⟨h, ?_⟩
    apply Classical.byContradiction
    intro hn
    have p1 : (0 : Rat) < α := Rat.intCast_lt_intCast.2 h
    have h2 : 0 < β := by omega
    have p2 : (0 : Rat) < β := Rat.intCast_lt_intCast.2 h2
    have q1 : 0 < (1 - m) * (α : Rat) := Rat.mul_pos (by grind) p1
    have q2 : 0 < m * (β : Rat) := Rat.mul_pos (by grind) p2
    grind
  · right
    refine ⟨by omega, ?_⟩
    apply Classical.byContradiction
    intro hn
    have h1' : α < 0 := by omega
    have h2' : β < 0 := by omega
    have p1 : (α : Rat) < 0 := Rat.intCast_lt_intCast.2 h1'
    have p2 : (β : Rat) < 0 := Rat.intCast_lt_intCast.2 h2'
    have q1 : 0 < (1 - m) * (-(α : Rat)) := Rat.mul_pos (by grind) (by grind)
    have q2 : 0 < m * (-(β : Rat)) := Rat.mul_pos (by grind) (by grind)
    grind
theorem howS_ne {a b c d : Pt} (h : Proper a b c d ∨ On a b c ∨ On a b d ∨ On c d a ∨ On c d b) : howS a b c d ≠ 0 := by
  unfold howS
  rcases h with h | h
  · rw [if_neg (proper_not_apart h), if_pos (nShared_zero.2 (proper_not_on h)), if_pos h]; decide
  · rw [if_neg (on_not_apart h), if_neg (fun e => nShared_zero.1 e h)]; split <;> decide
theorem meet_ne {a b c d : Pt} (ha : Ok a) (hb : Ok b) (hc : Ok c) (hd : Ok d) (hn : a ≠ b) (hm : c ≠ d) {l m : Rat} (l0 : 0 ≤ l) (l1 : l ≤ 1) (m0 : 0 ≤ m) (m1 : m ≤ 1)
    (ex : (a.x : Rat) + l * ((b.x : Rat) - a.x) = (c.x : Rat) + m * ((d.x : Rat) - c.x)) (ey : (a.y : Rat) + l * ((b.y : Rat) - a.y) = (c.y : Rat) + m * ((d.y : Rat) - c.y)) : howI a b c d ≠ 0 := by
  by_cases h0 : cross a b c = 0 ∧ cross a b d = 0
  · unfold howI
    rw [if_pos h0, key_lo2, key_hi2]
    have r1 := range_of (a := key a) (b := key b) (t := (key a : Rat) + l * ((key b : Rat) - key a)) l0 l1 rfl
    have r2 := range_of (a := key c) (b := key d) (t := (key a : Rat) + l * ((key b : Rat) - key a)) m0 m1 (by rw [cast_key, cast_key, cast_key, cast_key]; grind)
    have q1 : min (key a) (key b) ≤ max (key c) (key d) := Rat.intCast_le_intCast.1 (by grind)
    have q2 : min (key c) (key d) ≤ max (key a) (key b) := Rat.intCast_le_intCast.1 (by grind)
    rw [if_neg (by omega)]
    split <;> decide
  · rw [how_eq ha hb hc hd hn hm]
    apply howS_ne
    have e1 := cross_along ex ey
    have e2 := cross_along ex.symm ey.symm
    by_cases hα : cross a b c = 0
    · have hβ : cross a b d ≠ 0 := fun h => h0 ⟨hα, h⟩
      rw [hα] at e1
      have hm0 : m = 0 := by
        have hβ' : ((cross a b d : Int) : Rat) ≠ 0 := fun h => hβ (zero_cast.1 h)
        have : m * ((cross a b d : Int) : Rat) = 0 := by grind
        grind
      subst hm0
      exact .inr (.inl (on_of l0 l1 hα (by grind) (by grind)))
    · by_cases hβ : cross a b d = 0
      · rw [hβ] at e1
        have hα' : ((cross a b c : Int) : Rat) ≠ 0 := fun h => hα (zero_cast.1 h)
        have hm1 : m = 1 := by
          have : (1 - m) * ((cross a b c : Int) : Rat) = 0 := by grind
          grind
        subst hm1
        exact .inr (.inr (.inl (on_of l0 l1 hβ (by grind) (by grind))))
      · have o1 := opposite m0 m1 hα hβ e1
        by_cases hγ : cross c d a = 0
        · by_cases hδ : cross c d b = 0
          · exact absurd ⟨coll_back hm hγ hδ cross_a, coll_back hm hγ hδ cross_b⟩ h0
          · rw [hγ] at e2
            have hδ' : ((cross c d b : Int) : Rat) ≠ 0 := fun h => hδ (zero_cast.1 h)
            have hl0 : l = 0 := by
              have : l * ((cross c d b : Int) : Rat) = 0 := by grind
              grind
            subst hl0
            exact .inr (.inr (.inr (.inl (on_of m0 m1 hγ (by grind) (by grind)))))
        · by_cases hδ : cross c d b = 0
          · rw [hδ] at e2
            have hγ' : ((cross c d a : Int) : Rat) ≠ 0 := fun h => hγ (zero_cast.1 h)
            have hl1 : l = 1 := by
              have : (1 - l) * ((cross c d a : Int) : Rat) = 0 := by grind
              grind
            subst hl1
            exact .inr (.inr (.inr (.inr (on_of m0 m1 hδ (by grind) (by grind)))))
          · exact .inl ⟨o1, opposite l0 l1 hγ hδ e2⟩
theorem touch_at {a b c : Pt} (ha : Ok a) (hb : Ok b) (hc : Ok c) (h : howI a b b c = 1 ∨ howI b c a b = 1) {l m : Rat} (l0 : 0 ≤ l) (l1 : l ≤ 1) (m0 : 0 ≤ m) (m1 : m ≤ 1)
    (ex : (a.x : Rat) + l * ((b.x : Rat) - a.x) = (b.x : Rat) + m * ((c.x : Rat) - b.x)) (ey : (a.y : Rat) + l * ((b.y : Rat) - a.y) = (b.y : Rat) + m * ((c.y : Rat) - b.y)) :
    (key a : Rat) + l * ((key b : Rat) - key a) = key b := by
  by_cases h0 : cross a b c = 0
  · have hb0 : cross b c a = 0 := by unfold cross at *; grind
    have r1 := range_of (a := key a) (b := key b) (t := (key a : Rat) + l * ((key b : Rat) - key a)) l0 l1 rfl
    have r2 := range_of (a := key b) (b := key c) (t := (key a : Rat) + l * ((key b : Rat) - key a)) m0 m1 (by rw [cast_key, cast_key, cast_key]; grind)
    have hlohi : max (min (key a) (key b)) (min (key b) (key c)) = min (max (key a) (key b)) (max (key b) (key c)) := by
      rcases h with h | h
      · unfold howI at h
        rw [if_pos ⟨cross_b, h0⟩] at h
        split at h
        · omega
        · split at h
          · rename_i e; have e2 := congrArg key e; rw [key_lo2, key_hi2] at e2; exact e2
          · omega
      · unfold howI at h
        rw [if_pos ⟨hb0, cross_a⟩] at h
        split at h
        · omega
        · split at h
          · rename_i e; have e2 := congrArg key e; rw [key_lo2, key_hi2] at e2; omega
          · omega
    have hA : min (key a) (key b) ≤ key b ∧ key b ≤ max (key a) (key b) ∧ min (key b) (key c) ≤ key b ∧ key b ≤ max (key b) (key c) := by omega
    have hlo : max (min (key a) (key b)) (min (key b) (key c)) = key b := by omega
    have hhi : min (max (key a) (key b)) (max (key b) (key c)) = key b := by omega
    have c1 : max (min (key a) (key b)) (min (key b) (key c)) = min (key a) (key b) ∨ max (min (key a) (key b)) (min (key b) (key c)) = min (key b) (key c) := by omega
    have c2 : min (max (key a) (key b)) (max (key b) (key c)) = max (key a) (key b) ∨ min (max (key a) (key b)) (max (key b) (key c)) = max (key b) (key c) := by omega
    rw [hlo] at c1; rw [hhi] at c2
    have t1 : (key b : Rat) ≤ (key a : Rat) + l * ((key b : Rat) - key a) := by rcases c1 with e | e <;> grind
    have t2 : (key a : Rat) + l * ((key b : Rat) - key a) ≤ (key b : Rat) := by rcases c2 with e | e <;> grind
    grind
  · have e1 := cross_along ex ey
    rw [cross_b] at e1
    have h0' : ((cross a b c : Int) : Rat) ≠ 0 := fun h => h0 (zero_cast.1 h)
    have hm0 : m = 0 := by
      have : m * ((cross a b c : Int) : Rat) = 0 := by grind
      grind
    subst hm0
    rw [cast_key, cast_key]; grind
end Go.Proofs.Ytbackoeakepngaa.Geo
namespace Go.Proofs.Ytbackoeakepngaa.Geo
open Area
structure RingOk (n : Nat) (P : Nat → Pt) : Prop where
  three : 3 ≤ n
  ok : ∀ i, i < n → Ok (P i)
  seg : ∀ i, i < n → P i ≠ P (nx n i)
  how : ∀ i, i < n → ∀ j, j < i → howI (P i) (P (nx n i)) (P j) (P (nx n j)) = if j + 1 = i ∨ (j = 0 ∧ i + 1 = n) then 1 else 0
def walk (n : Nat) (P : Nat → Pt) : Walk := ⟨n, fun i => ((P i).x : Int), fun i => key (P i)⟩
theorem nx_cases {n j : Nat} (h : j < n) : (j + 1 = n ∧ nx n j = 0) ∨ (j + 1 < n ∧ nx n j = j + 1) := by
  unfold nx; split <;> omega
theorem ring_meet {n : Nat} {P : Nat → Pt} (hR : RingOk n P) {i j : Nat} (hi : i < n) (hj : j < n) (hij : i ≠ j) {l m : Rat} (l0 : 0 ≤ l) (l1 : l ≤ 1) (m0 : 0 ≤ m) (m1 : m ≤ 1)
    (ex : ((P i).x : Rat) + l * (((P (nx n i)).x : Rat) - (P i).x) = ((P j).x : Rat) + m * (((P (nx n j)).x : Rat) - (P j).x))
    (ey : ((P i).y : Rat) + l * (((P (nx n i)).y : Rat) - (P i).y) = ((P j).y : Rat) + m * (((P (nx n j)).y : Rat) - (P j).y)) :
    (nx n i = j ∧ (key (P i) : Rat) + l * ((key (P (nx n i)) : Rat) - key (P i)) = key (P j)) ∨ (nx n j = i ∧ (key (P i) : Rat) + l * ((key (P (nx n i)) : Rat) - key (P i)) = key (P i)) := by
  have h3 := hR.three
  have main : ∀ i j, j < i → i < n → ∀ l m : Rat, 0 ≤ l → l ≤ 1 → 0 ≤ m → m ≤ 1 →
      ((P i).x : Rat) + l * (((P (nx n i)).x : Rat) - (P i).x) = ((P j).x : Rat) + m * (((P (nx n j)).x : Rat) - (P j).x) →
      ((P i).y : Rat) + l * (((P (nx n i)).y : Rat) - (P i).y) = ((P j).y : Rat) + m * (((P (nx n j)).y : Rat) - (P j).y) →
      (nx n i = j ∧ (key (P i) : Rat) + l * ((key (P (nx n i)) : Rat) - key (P i)) = key (P j)) ∨ (nx n j = i ∧ (key (P i) : Rat) + l * ((key (P (nx n i)) : Rat) - key (P i)) = key (P i)) := by
    intro i j hji hi l m l0 l1 m0 m1 ex ey
    have hj : j < n := by omega
    have hw := hR.how i hi j hji
    have hni := nx_lt hi
    have hnj := nx_lt hj
    have hne := meet_ne (hR.ok i hi) (hR.ok _ hni) (hR.ok j hj) (hR.ok _ hnj) (hR.seg i hi) (hR.seg j hj) l0 l1 m0 m1 ex ey
    by_cases hc : j + 1 = i ∨ (j = 0 ∧ i + 1 = n)
    · rw [if_pos hc] at hw
      rcases hc with hc | ⟨hc, hc'⟩
      · -- j, then i
        right
        have e : nx n j = i := by rcases nx_cases hj with ⟨a, _⟩ | ⟨_, a⟩ <;> omega
        refine ⟨e, ?_⟩
        rw [e] at hw ex ey
        have := touch_at (hR.ok j hj) (hR.ok i hi) (hR.ok _ hni) (.inr hw) m0 m1 l0 l1 ex.symm ey.symm
        rw [cast_key, cast_key] at this ⊢
        grind
      · left
        subst hc
        have e : nx n i = 0 := by rcases nx_cases hi with ⟨_, a⟩ | ⟨a, _⟩ <;> omega
        refine ⟨e, ?_⟩
        rw [e] at hw ex ey ⊢
        exact touch_at (hR.ok i hi) (hR.ok 0 hj) (hR.ok _ hnj) (.inl hw) l0 l1 m0 m1 ex ey
    · rw [if_neg hc] at hw
      exact absurd hw hne
  by_cases h : j < i
  · exact main i j h hi l m l0 l1 m0 m1 ex ey
  · have h2 := main j i (by omega) hj m l m0 m1 l0 l1 ex.symm ey.symm
    have e : (key (P i) : Rat) + l * ((key (P (nx n i)) : Rat) - key (P i)) = (key (P j) : Rat) + m * ((key (P (nx n j)) : Rat) - key (P j)) := by
      rw [cast_key, cast_key, cast_key, cast_key]; grind
    rw [e]
    rcases h2 with ⟨a, b⟩ | ⟨a, b⟩
    · exact .inr ⟨a, b⟩
    · exact .inl ⟨a, b⟩
theorem frac {h0 h1 : Int} {t : Rat} (hn : h0 ≠ h1) (h : ((h0 : Rat) ≤ t ∧ t ≤ h1) ∨ ((h1 : Rat) ≤ t ∧ t ≤ h0)) : ∃ l : Rat, 0 ≤ l ∧ l ≤ 1 ∧ t = (h0 : Rat) + l * ((h1 : Rat) - h0) ∧ l = (t - h0) / ((h1 : Rat) - h0) := by
  have hne : (h1 : Rat) - h0 ≠ 0 := by
    intro e
    exact hn (Rat.intCast_inj.1 (by grind))
  obtain ⟨l, hl⟩ : ∃ l, l = (t - h0) / ((h1 : Rat) - h0) := ⟨_, rfl⟩
  have e : t = (h0 : Rat) + l * ((h1 : Rat) - h0) := by rw [hl]; grind
  refine ⟨l, ?_, ?_, e, hl⟩
  · apply Classical.byContradiction
    intro hc
    rcases h with ⟨a, b⟩ | ⟨a, b⟩
    · have p : 0 < (h1 : Rat) - h0 := by grind
      have := Rat.mul_pos (a := -l) (by grind) p
      grind
    · have p : 0 < (h0 : Rat) - h1 := by grind
      have := Rat.mul_pos (a := -l) (by grind) p
      grind
  · apply Classical.byContradiction
    intro hc
    rcases h with ⟨a, b⟩ | ⟨a, b⟩
    · have p : 0 < (h1 : Rat) - h0 := by grind
      have := Rat.mul_pos (a := l - 1) (by grind) p
      grind
    · have p : 0 < (h0 : Rat) - h1 := by grind
      have := Rat.mul_pos (a := l - 1) (by grind) p
      grind
theorem ring_simple {n : Nat} {P : Nat → Pt} (hR : RingOk n P) : (walk n P).Simple := by
  have h3 := hR.three
  have hkey : ∀ i, i < n → key (P i) ≠ key (P (nx n i)) := fun i hi e => hR.seg i hi (key_inj (hR.ok i hi) (hR.ok _ (nx_lt hi)) e)
  refine ⟨h3, ?_, ?_⟩
  · intro i j hi hj e
    have e' : key (P i) = key (P j) := e
    have hp := key_inj (hR.ok i hi) (hR.ok j hj) e'
    apply Classical.byContradiction
    intro hij
    rcases ring_meet hR hi hj hij (l := 0) (m := 0) (by grind) (by grind) (by grind) (by grind) (by rw [hp]; grind) (by rw [hp]; grind) with ⟨a, _⟩ | ⟨a, _⟩
    · exact hR.seg i hi (by rw [a]; exact hp)
    · exact hR.seg j hj (by rw [a]; exact hp.symm)
  · intro i j hi hj hij t ci cj e
    obtain ⟨l, l0, l1, ht, hl⟩ := frac (hkey i hi) ci
    obtain ⟨m, m0, m1, ht', hm⟩ := frac (hkey j hj) cj
    have pi : (walk n P).pos i t = ((P i).x : Rat) + l * (((P (nx n i)).x : Rat) - (P i).x) := by
      have : (walk n P).pos i t = ((P i).x : Rat) + (((P (nx n i)).x : Rat) - (P i).x) * (t - key (P i)) / ((key (P (nx n i)) : Rat) - key (P i)) := rfl
      rw [this, hl]; grind
    have pj : (walk n P).pos j t = ((P j).x : Rat) + m * (((P (nx n j)).x : Rat) - (P j).x) := by
      have : (walk n P).pos j t = ((P j).x : Rat) + (((P (nx n j)).x : Rat) - (P j).x) * (t - key (P j)) / ((key (P (nx n j)) : Rat) - key (P j)) := rfl
      rw [this, hm]; grind
    rw [pi, pj] at e
    have ey : ((P i).y : Rat) + l * (((P (nx n i)).y : Rat) - (P i).y) = ((P j).y : Rat) + m * (((P (nx n j)).y : Rat) - (P j).y) := by
      have := ht.symm.trans ht'
      rw [cast_key, cast_key, cast_key, cast_key] at this
      grind
    rw [ht]
    exact ring_meet hR hi hj hij l0 l1 m0 m1 e ey
def sumZ (f : Nat → Int) : Nat → Int
  | 0 => 0
  | n + 1 => sumZ f n + f n
theorem sumZ_cast (f : Nat → Int) : ∀ n, ((sumZ f n : Int) : Rat) = sumQ (fun i => ((f i : Int) : Rat)) n
  | 0 => rfl
  | n + 1 => by simp only [sumZ, sumQ]; rw [Rat.intCast_add, sumZ_cast f n]
theorem ring_area {n : Nat} {P : Nat → Pt} (hR : RingOk n P) : sumZ (fun i => (P i).x * (P (nx n i)).y - (P i).y * (P (nx n i)).x) n ≠ 0 := by
  have hb : ∀ i, i < (walk n P).n → 0 ≤ (walk n P).h i ∧ (walk n P).h i ≤ ((300000 : Nat) : Int) := by
    intro i hi
    have := hR.ok i hi
    unfold Ok at this
    have e : (walk n P).h i = 1000 * (P i).y + (P i).x := rfl
    omega
  have h := Walk.area_ne (ring_simple hR) hb
  intro h0
  apply h
  have e1 : ∀ m, sumQ (fun i => (walk n P).x i * (walk n P).h ((walk n P).s i) - (walk n P).h i * (walk n P).x ((walk n P).s i)) m = 1000 * sumQ (fun i => (((P i).x * (P (nx n i)).y - (P i).y * (P (nx n i)).x : Int) : Rat)) m := by
    intro m
    induction m with
    | zero => simp only [sumQ]; grind
    | succ m ih =>
      simp only [sumQ]
      rw [ih]
      have e : (walk n P).x m * (walk n P).h ((walk n P).s m) - (walk n P).h m * (walk n P).x ((walk n P).s m) = ((P m).x : Rat) * ((key (P (nx n m)) : Int) : Rat) - ((key (P m) : Int) : Rat) * ((P (nx n m)).x : Rat) := rfl
      rw [e, cast_key, cast_key, Rat.intCast_sub, Rat.intCast_mul, Rat.intCast_mul]
      grind
  rw [show (walk n P).n = n from rfl, e1, ← sumZ_cast, h0]
  grind
end Go.Proofs.Ytbackoeakepngaa.Geo
