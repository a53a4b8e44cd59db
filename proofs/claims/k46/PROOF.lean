import PyProof.Rows.All
import Wide.All
import OpenK.AllK
import Wide.FinOn
import HandS.ForMost
import HandS.Wide
import HandS.Gcd
import HandS.Style
import HandS.IsInst
import KE.GoesEnum
import KE.GoesEnumKw
import HandS.Zip
import HandS.TupAny
import KE.DataAny
import KE.DataIsa
import KE.DataFind
import HandS.Star
import HandS.Dict
import HandS.Small
import HandS.Ends
import PySem.Challenge.RW_copiedcurves_k46_whole_roots_within_1_by
section
/-! Relations of roots within 1: the test by first and last numbers, as positive forms. Plain Lean. -/
set_option maxHeartbeats 1000000
namespace SC

/-- numbers by powers of the shift, put on a sequence -/
def act : List Rat → (Nat → Rat) → Nat → Rat
  | [], _, _ => 0
  | a :: r, u, k => a * u k + act r u (k + 1)
/-- the same turned about, the degree told -/
def ract : List Rat → Nat → (Nat → Rat) → Nat → Rat
  | [], _, _, _ => 0
  | a :: r, n, u, k => a * u (k + n) + ract r (n - 1) u k
/-- the sequence without its first member -/
def sh (u : Nat → Rat) : Nat → Rat := fun k => u (k + 1)
def FS (N : Nat) (u : Nat → Rat) : Prop := ∀ k, N ≤ k → u k = 0

theorem act_add (p : List Rat) (u v : Nat → Rat) (k : Nat) : act p (fun j => u j + v j) k = act p u k + act p v k := by
  induction p generalizing k with
  | nil => simp only [act]; grind
  | cons a r ih => simp only [act, ih]; grind
theorem act_smul (p : List Rat) (c : Rat) (u : Nat → Rat) (k : Nat) : act p (fun j => c * u j) k = c * act p u k := by
  induction p generalizing k with
  | nil => simp [act]
  | cons a r ih => simp only [act, ih]; grind
theorem act_sh (p : List Rat) (u : Nat → Rat) (k : Nat) : act p (sh u) k = act p u (k + 1) := by
  induction p generalizing k with
  | nil => simp [act]
  | cons a r ih => simp only [act, ih, sh]
theorem act_shf (p : List Rat) (u : Nat → Rat) (k : Nat) : act p (fun j => u (j + 1)) k = act p u (k + 1) := act_sh p u k
theorem act_comm (p q : List Rat) (u : Nat → Rat) (k : Nat) : act p (act q u) k = act q (act p u) k := by
  induction p generalizing k with
  | nil =>
    have e : act [] u = fun _ => 0 := by funext j; simp [act]
    have z : act q (fun j => (0 : Rat) * u j) k = 0 * act q u k := act_smul q 0 u k
    simp only [Rat.zero_mul] at z
    rw [e, z]; simp [act]
  | cons a r ih =>
    have e : act (a :: r) u = fun j => a * u j + (fun i => act r u (i + 1)) j := by funext j; simp [act]
    rw [e, act_add, act_smul, act_shf]
    simp only [act, ih]
theorem act_append (p q : List Rat) (u : Nat → Rat) (k : Nat) : act (p ++ q) u k = act p u k + act q u (k + p.length) := by
  induction p generalizing k with
  | nil => simp [act, Rat.zero_add]
  | cons a r ih =>
    simp only [List.cons_append, act, ih, List.length_cons]
    have e : k + 1 + r.length = k + (r.length + 1) := by omega
    rw [e]; grind
theorem act_zeros (n : Nat) (u : Nat → Rat) (k : Nat) : act (List.replicate n 0) u k = 0 := by
  induction n generalizing k with
  | zero => rfl
  | succ n ih => simp only [List.replicate_succ, act, ih]; grind
theorem act_fs {N : Nat} {u : Nat → Rat} (h : FS N u) (p : List Rat) : FS N (act p u) := by
  intro k hk
  induction p generalizing k with
  | nil => rfl
  | cons a r ih => simp only [act, h k hk, ih (k + 1) (by omega)]; grind
theorem sh_fs {N : Nat} {u : Nat → Rat} (h : FS N u) : FS N (sh u) := fun k hk => h (k + 1) (by omega)
theorem act_zip (t f : Rat) : ∀ (l m : List Rat), l.length = m.length → ∀ (u : Nat → Rat) (k : Nat), act (List.zipWith (fun a b => t * a - f * b) l m) u k = t * act l u k - f * act m u k
  | [], [], _, u, k => by simp [act]; grind
  | [], b :: m, h, _, _ => by simp at h
  | a :: l, [], h, _, _ => by simp at h
  | a :: l, b :: m, h, u, k => by
    have ih := act_zip t f l m (by simpa using h) u (k + 1)
    simp only [List.zipWith_cons_cons, act, ih]; grind
theorem act_zipAdd : ∀ (l m : List Rat), l.length = m.length → ∀ (u : Nat → Rat) (k : Nat), act (List.zipWith (fun a b => a + b) l m) u k = act l u k + act m u k
  | [], [], _, u, k => by simp [act]; grind
  | [], b :: m, h, _, _ => by simp at h
  | a :: l, [], h, _, _ => by simp at h
  | a :: l, b :: m, h, u, k => by
    have ih := act_zipAdd l m (by simpa using h) u (k + 1)
    simp only [List.zipWith_cons_cons, act, ih]; grind
theorem act_map (c : Rat) (l : List Rat) (u : Nat → Rat) (k : Nat) : act (l.map fun a => c * a) u k = c * act l u k := by
  induction l generalizing k with
  | nil => simp [act]
  | cons a r ih => simp only [List.map_cons, act, ih]; grind
/-- what vanishes ahead: nothing is seen -/
theorem act_none (p : List Rat) (u : Nat → Rat) (n k : Nat) (h : ∀ j, j < n → u j = 0) (hp : k + p.length ≤ n) : act p u k = 0 := by
  induction p generalizing k with
  | nil => rfl
  | cons a r ih =>
    simp only [List.length_cons] at hp
    simp only [act, h k (by omega), ih (k + 1) (by omega)]; grind
theorem act_eq (p : List Rat) (u v : Nat → Rat) (n k : Nat) (h : ∀ j, j < n → u j = v j) (hp : k + p.length ≤ n) : act p u k = act p v k := by
  induction p generalizing k with
  | nil => rfl
  | cons a r ih =>
    simp only [List.length_cons] at hp
    simp only [act, h k (by omega), ih (k + 1) (by omega)]

/-! ### turned about -/
theorem ract_rev (p : List Rat) (u : Nat → Rat) (k : Nat) : act p.reverse u k = ract p (p.length - 1) u k := by
  induction p generalizing k with
  | nil => rfl
  | cons a r ih =>
    rw [List.reverse_cons, act_append, ih]
    simp only [act, ract, List.length_reverse, List.length_cons, Nat.add_sub_cancel]
    grind
theorem ract_more (p : List Rat) (l m : Nat) (h : p.length ≤ l + 1) (u : Nat → Rat) (k : Nat) : ract p (m + l) u k = ract p l u (k + m) := by
  induction p generalizing l with
  | nil => rfl
  | cons a r ih =>
    simp only [List.length_cons] at h
    simp only [ract]
    have e : k + (m + l) = k + m + l := by omega
    rw [e]
    cases r with
    | nil => simp [ract]
    | cons b r' =>
      simp only [List.length_cons] at h
      have e2 : m + l - 1 = m + (l - 1) := by omega
      rw [e2, ih (l - 1) (by simp only [List.length_cons]; omega)]
theorem ract_zipAdd : ∀ (l m : List Rat), l.length = m.length → ∀ (n : Nat) (u : Nat → Rat) (k : Nat), ract (List.zipWith (fun a b => a + b) l m) n u k = ract l n u k + ract m n u k
  | [], [], _, n, u, k => by simp [ract]; grind
  | [], b :: m, h, _, _, _ => by simp at h
  | a :: l, [], h, _, _, _ => by simp at h
  | a :: l, b :: m, h, n, u, k => by
    have ih := ract_zipAdd l m (by simpa using h) (n - 1) u k
    simp only [List.zipWith_cons_cons, ract, ih]; grind
theorem ract_zeros (j n : Nat) (u : Nat → Rat) (k : Nat) : ract (List.replicate j 0) n u k = 0 := by
  induction j generalizing n with
  | zero => rfl
  | succ j ih => simp only [List.replicate_succ, ract, ih]; grind
theorem ract_appZ (p : List Rat) (j n : Nat) (u : Nat → Rat) (k : Nat) : ract (p ++ List.replicate j 0) n u k = ract p n u k := by
  induction p generalizing n with
  | nil => simp only [List.nil_append, ract_zeros, ract]
  | cons a r ih => simp only [List.cons_append, ract, ih]
theorem ract_map (c : Rat) (l : List Rat) (n : Nat) (u : Nat → Rat) (k : Nat) : ract (l.map fun a => c * a) n u k = c * ract l n u k := by
  induction l generalizing n with
  | nil => simp [ract]
  | cons a r ih => simp only [List.map_cons, ract, ih]; grind

/-! ### products -/
def conv : List Rat → List Rat → List Rat
  | [], g => List.replicate (g.length - 1) 0
  | a :: r, g => List.zipWith (fun x y => x + y) ((g.map fun b => a * b) ++ List.replicate r.length 0) (0 :: conv r g)
theorem conv_length (f g : List Rat) (hg : g ≠ []) : (conv f g).length = f.length + g.length - 1 := by
  have h := List.length_pos_iff.mpr hg
  induction f with
  | nil => simp [conv]
  | cons a r ih => simp only [conv, List.length_zipWith, List.length_append, List.length_map, List.length_replicate, List.length_cons, ih]; omega
theorem act_conv (f g : List Rat) (hg : g ≠ []) (u : Nat → Rat) (k : Nat) : act (conv f g) u k = act f (act g u) k := by
  have h := List.length_pos_iff.mpr hg
  induction f generalizing k with
  | nil => simp only [conv, act_zeros, act]
  | cons a r ih =>
    have hl := conv_length r g hg
    simp only [conv]
    rw [act_zipAdd _ _ (by simp only [List.length_append, List.length_map, List.length_replicate, List.length_cons, hl]; omega), act_append, act_map, act_zeros]
    simp only [act, ih]; grind
theorem ract_conv (f g : List Rat) (hg : g ≠ []) (m : Nat) (hm : f.length ≤ m + 1) (u : Nat → Rat) (k : Nat) : ract (conv f g) (m + (g.length - 1)) u k = ract f m (ract g (g.length - 1) u) k := by
  have h := List.length_pos_iff.mpr hg
  induction f generalizing m with
  | nil => simp only [conv, ract_zeros, ract]
  | cons a r ih =>
    have hl := conv_length r g hg
    simp only [List.length_cons] at hm
    simp only [conv]
    rw [ract_zipAdd _ _ (by simp only [List.length_append, List.length_map, List.length_replicate, List.length_cons, hl]; omega), ract_appZ, ract_map, ract_more g (g.length - 1) m (by omega)]
    simp only [ract]
    cases r with
    | nil => simp only [conv, ract_zeros, ract]; grind
    | cons b r' =>
      simp only [List.length_cons] at hm
      have e : m + (g.length - 1) - 1 = (m - 1) + (g.length - 1) := by omega
      rw [e, ih (m - 1) (by simp only [List.length_cons]; omega)]; grind
theorem act_convR (f g : List Rat) (hf : f ≠ []) (hg : g ≠ []) (u : Nat → Rat) (k : Nat) : act (conv f g).reverse u k = act f.reverse (act g.reverse u) k := by
  have h1 := List.length_pos_iff.mpr hf
  have h2 := List.length_pos_iff.mpr hg
  have e : f.length + g.length - 1 - 1 = (f.length - 1) + (g.length - 1) := by omega
  have eg : act g.reverse u = ract g (g.length - 1) u := by funext j; exact ract_rev g u j
  rw [ract_rev, conv_length f g hg, e, ract_conv f g hg _ (by omega), ract_rev, eg]

/-! ### sums over the first places -/
def bs (F : Nat → Rat) : Nat → Rat
  | 0 => 0
  | n + 1 => bs F n + F n
theorem bs_add (F G : Nat → Rat) (n : Nat) : bs (fun s => F s + G s) n = bs F n + bs G n := by
  induction n with
  | zero => simp [bs]; grind
  | succ n ih => simp only [bs, ih]; grind
theorem bs_sub (F G : Nat → Rat) (n : Nat) : bs (fun s => F s - G s) n = bs F n - bs G n := by
  induction n with
  | zero => simp [bs]; grind
  | succ n ih => simp only [bs, ih]; grind
theorem bs_mul (c : Rat) (F : Nat → Rat) (n : Nat) : bs (fun s => c * F s) n = c * bs F n := by
  induction n with
  | zero => simp [bs]
  | succ n ih => simp only [bs, ih]; grind
theorem bs_congr {F G : Nat → Rat} (h : ∀ s, F s = G s) (n : Nat) : bs F n = bs G n := by rw [show F = G from funext h]
theorem bs_tel (F : Nat → Rat) (n : Nat) : bs (fun s => F (s + 1)) n = bs F n - F 0 + F n := by
  induction n with
  | zero => simp [bs]; grind
  | succ n ih => simp only [bs, ih]; grind

/-! ### the form -/
def B (N : Nat) (p : List Rat) (u v : Nat → Rat) : Rat := bs (fun s => act p.reverse u s * act p.reverse v s - act p u s * act p v s) N

theorem B_add (N : Nat) (p : List Rat) (u u' v : Nat → Rat) : B N p (fun k => u k + u' k) v = B N p u v + B N p u' v := by
  unfold B
  rw [← bs_add]
  exact bs_congr (fun s => by simp only [act_add]; grind) N
theorem B_smul (N : Nat) (p : List Rat) (c : Rat) (u v : Nat → Rat) : B N p (fun k => c * u k) v = c * B N p u v := by
  unfold B
  rw [← bs_mul]
  exact bs_congr (fun s => by simp only [act_smul]; grind) N
theorem B_comm (N : Nat) (p : List Rat) (u v : Nat → Rat) : B N p u v = B N p v u := by
  unfold B
  exact bs_congr (fun s => by grind) N
/-- one step on -/
theorem B_sh {N : Nat} (p : List Rat) {u v : Nat → Rat} (hu : FS N u) : B N p u v - B N p (sh u) (sh v) = act p.reverse u 0 * act p.reverse v 0 - act p u 0 * act p v 0 := by
  have e : B N p (sh u) (sh v) = bs (fun s => (fun j => act p.reverse u j * act p.reverse v j - act p u j * act p v j) (s + 1)) N := by
    unfold B
    exact bs_congr (fun s => by simp only [act_sh]) N
  rw [e, bs_tel (fun j => act p.reverse u j * act p.reverse v j - act p u j * act p v j) N]
  have z1 := act_fs hu p.reverse N (Nat.le_refl _)
  have z2 := act_fs hu p N (Nat.le_refl _)
  unfold B
  rw [z1, z2]; grind

/-! ### one step of the test -/
def stepR (l : List Rat) : List Rat := (List.zipWith (fun a b => l.getLastD 0 * a - l.headD 0 * b) l l.reverse).tail
theorem stepR_length (l : List Rat) : (stepR l).length = l.length - 1 := by simp [stepR]

theorem step_facts (l : List Rat) (h : 2 ≤ l.length) : ∃ f t : Rat, l.headD 0 = f ∧ l.getLastD 0 = t ∧
    (∀ u k, act (stepR l) u (k + 1) = t * act l u k - f * act l.reverse u k) ∧ (∀ u k, act (stepR l).reverse u k = t * act l.reverse u k - f * act l u k) ∧
    (stepR l).getLastD 0 = t * t - f * f := by
  refine ⟨_, _, rfl, rfl, ?_⟩
  generalize hL : List.zipWith (fun a b => l.getLastD 0 * a - l.headD 0 * b) l l.reverse = L
  have hlen : L.length = l.length := by rw [← hL]; simp
  obtain ⟨a, m, rfl⟩ : ∃ a m, l = a :: m := by
    cases l with
    | nil => simp at h
    | cons a m => exact ⟨a, m, rfl⟩
  obtain ⟨m', b, rfl⟩ : ∃ m' b, m = m' ++ [b] := by
    have hm : m ≠ [] := by rintro rfl; simp at h
    exact ⟨m.dropLast, m.getLast hm, (List.dropLast_concat_getLast hm).symm⟩
  have e1 : (a :: (m' ++ [b])).headD 0 = a := rfl
  have e2 : (a :: (m' ++ [b])).getLastD 0 = b := by rw [List.getLastD_eq_getLast?, ← List.cons_append, List.getLast?_concat]; rfl
  have er : (a :: (m' ++ [b])).reverse = b :: (m'.reverse ++ [a]) := by simp
  have hs : stepR (a :: (m' ++ [b])) = L.tail := by rw [← hL]; rfl
  obtain ⟨c, L', rfl⟩ : ∃ c L', L = c :: L' := by
    cases L with
    | nil => simp at hlen
    | cons c L' => exact ⟨c, L', rfl⟩
  have hc : c = b * a - a * b := by
    have := hL
    rw [e1, e2, er] at this
    simp only [List.zipWith_cons_cons, List.cons.injEq] at this
    exact this.1.symm
  have hc0 : c = 0 := by rw [hc]; grind
  subst hc0
  rw [e1, e2] at hL ⊢
  have hrev : L'.reverse ++ [0] = List.zipWith (fun x y => b * x - a * y) (a :: (m' ++ [b])).reverse (a :: (m' ++ [b])) := by
    have := congrArg List.reverse hL
    rw [List.reverse_zipWith (by simp), List.reverse_reverse] at this
    rw [this]; simp
  refine ⟨fun u k => ?_, fun u k => ?_, ?_⟩
  · have := act_zip b a (a :: (m' ++ [b])) (a :: (m' ++ [b])).reverse (by simp) u k
    rw [hL] at this
    rw [hs, List.tail_cons]
    simp only [act] at this ⊢
    grind
  · have := act_zip b a (a :: (m' ++ [b])).reverse (a :: (m' ++ [b])) (by simp) u k
    rw [← hrev, act_append] at this
    rw [hs, List.tail_cons]
    simp only [act] at this ⊢
    grind
  · rw [hs, List.tail_cons]
    have : L'.getLast? = some (b * b - a * a) := by
      have h1 := hL
      rw [er] at h1
      simp only [List.zipWith_cons_cons, List.cons.injEq] at h1
      rw [← h1.2, List.zipWith_append (by simp)]
      simp
    rw [List.getLastD_eq_getLast?, this]; rfl

theorem step_B {N : Nat} (l : List Rat) (h : 2 ≤ l.length) {u v : Nat → Rat} (hu : FS N u) :
    (l.getLastD 0 * l.getLastD 0 - l.headD 0 * l.headD 0) * B N l u v = act (stepR l).reverse u 0 * act (stepR l).reverse v 0 + B N (stepR l) (sh u) (sh v) := by
  obtain ⟨f, t, ef, et, h1, h2, _⟩ := step_facts l h
  rw [ef, et]
  have e1 : (t * t - f * f) * B N l u v = bs (fun s => act (stepR l).reverse u s * act (stepR l).reverse v s - act (stepR l) u (s + 1) * act (stepR l) v (s + 1)) N := by
    unfold B
    rw [← bs_mul]
    exact bs_congr (fun s => by simp only [h1, h2]; grind) N
  have e2 : B N (stepR l) (sh u) (sh v) = bs (fun s => (fun j => act (stepR l).reverse u j * act (stepR l).reverse v j) (s + 1) - act (stepR l) u (s + 1) * act (stepR l) v (s + 1)) N := by
    unfold B
    exact bs_congr (fun s => by simp only [act_sh]) N
  rw [e1, e2, bs_sub, bs_sub, bs_tel (fun j => act (stepR l).reverse u j * act (stepR l).reverse v j) N]
  have z := act_fs hu (stepR l).reverse N (Nat.le_refl _)
  simp only [z]; grind

/-- the test -/
def within : Nat → List Rat → Bool
  | 0, _ => true
  | n + 1, l => if l.length ≤ 1 then true else if l.headD 0 * l.headD 0 < l.getLastD 0 * l.getLastD 0 then within n (stepR l) else false

/-- positive at all that is there ahead of n -/
def PD (n : Nat) (p : List Rat) : Prop := ∀ (N : Nat) (u : Nat → Rat), FS N u → 0 ≤ B N p u u ∧ (B N p u u = 0 → ∀ k, k < n → u k = 0)

theorem sq_nonneg (x : Rat) : 0 ≤ x * x := by
  rcases Rat.le_total (a := 0) (b := x) with h | h
  · exact Rat.mul_nonneg h h
  · have : 0 ≤ -x := by grind
    have := Rat.mul_nonneg this this
    grind
theorem sq_zero {x : Rat} (h : x * x = 0) : x = 0 := by
  rcases Rat.mul_eq_zero.mp h with h | h <;> exact h
theorem B_one (N : Nat) (a : Rat) (u v : Nat → Rat) : B N [a] u v = 0 := by
  unfold B
  have : bs (fun s => act [a].reverse u s * act [a].reverse v s - act [a] u s * act [a] v s) N = bs (fun s => 0 * (0 : Rat)) N := bs_congr (fun s => by simp only [List.reverse_singleton]; grind) N
  rw [this, bs_mul]; grind
/-- the first member of a row led by the last number alone -/
def e0 (c : Rat) : Nat → Rat := fun k => if k = 0 then c else 0
theorem e0_fs (c : Rat) : FS 1 (e0 c) := fun k hk => by unfold e0; rw [if_neg (by omega)]
theorem act_e0 (a : Rat) (r : List Rat) (c : Rat) : act (a :: r) (e0 c) 0 = a * c := by
  simp only [act]
  have : act r (e0 c) 1 = 0 := by
    have h := e0_fs c
    exact act_fs h r 1 (Nat.le_refl _)
  rw [show (0 + 1) = 1 from rfl, this]; simp [e0]; grind

theorem pd_of_within : ∀ (n : Nat) (l : List Rat), l.length = n + 1 → l.getLastD 0 ≠ 0 → within n l = true → PD n l
  | 0, l, hl, _, _ => by
    obtain ⟨a, rfl⟩ := List.length_eq_one_iff.mp hl
    intro N u _
    rw [B_one]
    exact ⟨Rat.le_refl, fun _ k hk => absurd hk (by omega)⟩
  | n + 1, l, hl, hz, hw => by
    unfold within at hw
    rw [if_neg (by omega)] at hw
    split at hw
    · rename_i hlt
      have hlq : (stepR l).length = n + 1 := by rw [stepR_length]; omega
      obtain ⟨f, t, ef, et, h1, h2, h3⟩ := step_facts l (by omega)
      have hd : 0 < l.getLastD 0 * l.getLastD 0 - l.headD 0 * l.headD 0 := by grind
      have hq0 : (stepR l).getLastD 0 ≠ 0 := by rw [h3, ← ef, ← et]; grind
      have ih := pd_of_within n (stepR l) hlq hq0 hw
      intro N u hu
      have hB := step_B l (by omega) hu (v := u)
      obtain ⟨q1, q2⟩ := ih N (sh u) (sh_fs hu)
      have s1 := sq_nonneg (act (stepR l).reverse u 0)
      have hnn : 0 ≤ (l.getLastD 0 * l.getLastD 0 - l.headD 0 * l.headD 0) * B N l u u := by rw [hB]; grind
      refine ⟨?_, fun hz0 k hk => ?_⟩
      · rcases Rat.le_total (a := 0) (b := B N l u u) with g | g
        · exact g
        · refine Rat.not_lt.mp fun g2 => ?_
          have := (Rat.mul_neg_iff_of_pos_left hd).mpr g2
          grind
      · rw [hz0] at hB
        have c1 : act (stepR l).reverse u 0 * act (stepR l).reverse u 0 = 0 := by grind
        have c2 : B N (stepR l) (sh u) (sh u) = 0 := by grind
        have c3 := sq_zero c1
        have c4 := q2 c2
        cases k with
        | succ k => exact c4 k (by omega)
        | zero =>
          have hr : (stepR l).reverse ≠ [] := by
            intro e
            have := congrArg List.length e
            simp [hlq] at this
          obtain ⟨a, r, er⟩ := List.exists_cons_of_ne_nil hr
          have ha : a = (stepR l).getLastD 0 := by
            have : (stepR l).reverse.head? = some a := by rw [er]; rfl
            rw [List.head?_reverse] at this
            rw [List.getLastD_eq_getLast?, this]; rfl
          rw [er] at c3
          have hrl : r.length = n := by
            have := congrArg List.length er
            simp only [List.length_reverse, hlq, List.length_cons] at this
            omega
          have hrest : act r u 1 = 0 := by
            have e := act_sh r u 0
            rw [← e]
            exact act_none r (sh u) n 0 c4 (by omega)
          simp only [act] at c3
          rw [show (0 + 1) = 1 from rfl, hrest] at c3
          have : a * u 0 = 0 := by grind
          rcases Rat.mul_eq_zero.mp this with g | g
          · exact absurd (ha ▸ g) hq0
          · exact g
    · cases hw

theorem within_of_pd : ∀ (n : Nat) (l : List Rat), l.length = n + 1 → l.getLastD 0 ≠ 0 → PD n l → within n l = true
  | 0, l, _, _, _ => rfl
  | n + 1, l, hl, hz, hp => by
    obtain ⟨f, t, ef, et, h1, h2, h3⟩ := step_facts l (by omega)
    have hlq : (stepR l).length = n + 1 := by rw [stepR_length]; omega
    obtain ⟨a, r, erl⟩ : ∃ a r, l = a :: r := List.exists_cons_of_ne_nil (by rintro rfl; simp at hl)
    obtain ⟨b, r', err⟩ : ∃ b r', l.reverse = b :: r' := List.exists_cons_of_ne_nil (by intro e; have := congrArg List.length e; simp [hl] at this)
    have ha : l.headD 0 = a := by rw [erl]; rfl
    have hb : l.getLastD 0 = b := by
      have : l.reverse.head? = some b := by rw [err]; rfl
      rw [List.head?_reverse] at this
      rw [List.getLastD_eq_getLast?, this]; rfl
    have hlt : l.headD 0 * l.headD 0 < l.getLastD 0 * l.getLastD 0 := by
      have hu := e0_fs 1
      obtain ⟨p1, p2⟩ := hp 1 (e0 1) hu
      have eB : B 1 l (e0 1) (e0 1) = b * b - a * a := by
        unfold B
        simp only [bs]
        rw [err, act_e0, erl, act_e0]; grind
      rw [eB] at p1 p2
      rw [ha, hb]
      rcases Rat.le_iff_eq_or_lt.mp p1 with g | g
      · grind
      · have := p2 g.symm 0 (by omega)
        simp [e0] at this
    unfold within
    rw [if_neg (by omega), if_pos hlt]
    have hd : 0 < l.getLastD 0 * l.getLastD 0 - l.headD 0 * l.headD 0 := by grind
    have hq0 : (stepR l).getLastD 0 ≠ 0 := by rw [h3, ← ef, ← et]; grind
    refine within_of_pd n (stepR l) hlq hq0 fun N w hw => ?_
    have hr : (stepR l).reverse ≠ [] := by
      intro e
      have := congrArg List.length e
      simp [hlq] at this
    obtain ⟨c, rr, er⟩ := List.exists_cons_of_ne_nil hr
    have hc : c ≠ 0 := by
      have : (stepR l).reverse.head? = some c := by rw [er]; rfl
      rw [List.head?_reverse] at this
      have e : (stepR l).getLastD 0 = c := by rw [List.getLastD_eq_getLast?, this]; rfl
      rw [← e]; exact hq0
    -- the sequence before w at which the first form is nothing
    let u : Nat → Rat := fun k => match k with | 0 => -(act rr w 0) / c | k + 1 => w k
    have hsh : sh u = w := rfl
    have hu : FS (N + 1) u := fun k hk => by
      cases k with
      | zero => omega
      | succ k => exact hw k (by omega)
    have hwN : FS (N + 1) w := fun k hk => hw k (by omega)
    have hz1 : act (stepR l).reverse u 0 = 0 := by
      rw [er]
      simp only [act]
      have e := act_sh rr u 0
      rw [hsh] at e
      rw [← e]
      show c * (-(act rr w 0) / c) + act rr w 0 = 0
      have : c * (-(act rr w 0) / c) = -(act rr w 0) := by
        rw [Rat.mul_comm]; exact Rat.div_mul_cancel hc
      rw [this]; grind
    have hB := step_B (N := N + 1) l (by omega) hu (v := u)
    rw [hz1, hsh] at hB
    have hBN : B (N + 1) (stepR l) w w = B N (stepR l) w w := by
      unfold B
      simp only [bs]
      have z1 := act_fs hw (stepR l) N (Nat.le_refl _)
      have z2 := act_fs hw (stepR l).reverse N (Nat.le_refl _)
      rw [z1, z2]; grind
    rw [hBN] at hB
    obtain ⟨p1, p2⟩ := hp (N + 1) u hu
    have e : B N (stepR l) w w = (l.getLastD 0 * l.getLastD 0 - l.headD 0 * l.headD 0) * B (N + 1) l u u := by grind
    refine ⟨?_, fun hz0 k hk => ?_⟩
    · rw [e]; exact Rat.mul_nonneg (Rat.le_of_lt hd) p1
    · rw [hz0] at e
      rcases Rat.mul_eq_zero.mp e.symm with g | g
      · grind
      · exact p2 g (k + 1) (by omega)

/-! ### what vanishes ahead is not seen by the form -/
theorem bs_shift (F : Nat → Rat) (m : Nat) (N : Nat) (h0 : ∀ s, s < m → F s = 0) (hN : ∀ s, N ≤ s → F s = 0) : bs (fun s => F (s + m)) N = bs F N := by
  induction m generalizing F with
  | zero => rfl
  | succ m ih =>
    have e : (fun s => F (s + (m + 1))) = fun s => (fun j => F (j + 1)) (s + m) := by
      funext s
      show F (s + (m + 1)) = F (s + m + 1)
      rfl
    rw [e, ih (fun j => F (j + 1)) (fun s hs => h0 (s + 1) (by omega)) (fun s hs => hN (s + 1) (by omega)), bs_tel F N, h0 0 (by omega), hN N (Nat.le_refl _)]
    grind
theorem corr_x (N : Nat) : ∀ (h : List Rat) (w v : Nat → Rat), FS N w → (∀ k, k < h.length → w k = 0) →
    bs (fun s => w (s + h.length) * act h.reverse v s) N = bs (fun s => act h w (s + 1) * v s) N
  | [], w, v, _, _ => bs_congr (fun s => by simp [act]) N
  | c :: h, w, v, hw, hz => by
    have ih := corr_x N h (sh w) v (sh_fs hw) (fun k hk => hz (k + 1) (by simp only [List.length_cons]; omega))
    have e1 : bs (fun s => w (s + (c :: h).length) * act (c :: h).reverse v s) N = bs (fun s => sh w (s + h.length) * act h.reverse v s) N + c * bs (fun s => (fun j => w (j + 1) * v j) (s + h.length)) N := by
      rw [← bs_mul, ← bs_add]
      refine bs_congr (fun s => ?_) N
      rw [List.reverse_cons, act_append]
      simp only [act, List.length_reverse, List.length_cons, sh]
      have q : s + (h.length + 1) = s + h.length + 1 := by omega
      rw [q]; grind
    have e2 : bs (fun s => act (c :: h) w (s + 1) * v s) N = bs (fun s => act h (sh w) (s + 1) * v s) N + c * bs (fun s => (fun j => w (j + 1) * v j) s) N := by
      rw [← bs_mul, ← bs_add]
      refine bs_congr (fun s => ?_) N
      simp only [act, act_sh]; grind
    rw [e1, e2, ih, bs_shift (fun j => w (j + 1) * v j) h.length N (fun s hs => by rw [hz (s + 1) (by simp only [List.length_cons]; omega)]; grind) (fun s hs => by rw [hw (s + 1) (by omega)]; grind)]
theorem corr_y (N : Nat) : ∀ (g : List Rat) (w v : Nat → Rat), FS N w → (∀ k, k < g.length → w k = 0) →
    bs (fun s => act g.reverse w s * v (s + g.length)) N = bs (fun s => w s * act g v (s + 1)) N
  | [], w, v, _, _ => bs_congr (fun s => by simp [act]) N
  | c :: g, w, v, hw, hz => by
    have ih := corr_y N g w (sh v) hw (fun k hk => hz k (by simp only [List.length_cons]; omega))
    have e1 : bs (fun s => act (c :: g).reverse w s * v (s + (c :: g).length)) N = bs (fun s => act g.reverse w s * sh v (s + g.length)) N + c * bs (fun s => (fun j => w j * v (j + 1)) (s + g.length)) N := by
      rw [← bs_mul, ← bs_add]
      refine bs_congr (fun s => ?_) N
      rw [List.reverse_cons, act_append]
      simp only [act, List.length_reverse, List.length_cons, sh]
      have q : s + (g.length + 1) = s + g.length + 1 := by omega
      rw [q]; grind
    have e2 : bs (fun s => w s * act (c :: g) v (s + 1)) N = bs (fun s => w s * act g (sh v) (s + 1)) N + c * bs (fun s => (fun j => w j * v (j + 1)) s) N := by
      rw [← bs_mul, ← bs_add]
      refine bs_congr (fun s => ?_) N
      simp only [act, act_sh]; grind
    rw [e1, e2, ih, bs_shift (fun j => w j * v (j + 1)) g.length N (fun s hs => by rw [hz s (by simp only [List.length_cons]; omega)]; grind) (fun s hs => by rw [hw s hs]; grind)]
theorem corr_rev (N : Nat) : ∀ (g h : List Rat), g.length = h.length → ∀ (w v : Nat → Rat), FS N w → (∀ k, k + 1 < g.length → w k = 0) →
    bs (fun s => act g.reverse w s * act h.reverse v s) N = bs (fun s => act h w s * act g v s) N
  | [], [], _, w, v, _, _ => rfl
  | [], b :: h, e, _, _, _, _ => by simp at e
  | a :: g, [], e, _, _, _, _ => by simp at e
  | a :: g, b :: h, e, w, v, hw, hz => by
    have el : g.length = h.length := by simpa using e
    simp only [List.length_cons] at hz
    have hz' : ∀ k, k < g.length → w k = 0 := fun k hk => hz k (by omega)
    have ih := corr_rev N g h el w v hw (fun k hk => hz k (by omega))
    have x := corr_x N h w v hw (fun k hk => hz' k (by omega))
    have y := corr_y N g w v hw hz'
    have wv := bs_shift (fun j => w j * v j) g.length N (fun s hs => by rw [hz' s hs]; grind) (fun s hs => by rw [hw s hs]; grind)
    have e1 : bs (fun s => act (a :: g).reverse w s * act (b :: h).reverse v s) N =
        bs (fun s => act g.reverse w s * act h.reverse v s) N + a * bs (fun s => w (s + h.length) * act h.reverse v s) N + b * bs (fun s => act g.reverse w s * v (s + g.length)) N + a * b * bs (fun s => (fun j => w j * v j) (s + g.length)) N := by
      rw [← bs_mul, ← bs_mul, ← bs_mul, ← bs_add, ← bs_add, ← bs_add]
      refine bs_congr (fun s => ?_) N
      rw [List.reverse_cons, List.reverse_cons, act_append, act_append]
      simp only [act, List.length_reverse, el]; grind
    have t : bs (fun s => (fun j => act h w j * act g v j) (s + 1)) N = bs (fun s => act h w s * act g v s) N := by
      rw [bs_tel (fun j => act h w j * act g v j) N, act_none h w g.length 0 hz' (by omega), act_fs hw h N (Nat.le_refl _)]; grind
    have e2 : bs (fun s => act (b :: h) w s * act (a :: g) v s) N =
        bs (fun s => (fun j => act h w j * act g v j) (s + 1)) N + a * bs (fun s => act h w (s + 1) * v s) N + b * bs (fun s => w s * act g v (s + 1)) N + a * b * bs (fun s => (fun j => w j * v j) s) N := by
      rw [← bs_mul, ← bs_mul, ← bs_mul, ← bs_add, ← bs_add, ← bs_add]
      refine bs_congr (fun s => ?_) N
      simp only [act]; grind
    rw [e1, e2, t, ih, x, y, wv]
theorem B_none {N : Nat} (p : List Rat) {w : Nat → Rat} (v : Nat → Rat) (hw : FS N w) (hz : ∀ k, k + 1 < p.length → w k = 0) : B N p w v = 0 := by
  unfold B
  rw [bs_sub, corr_rev N p p rfl w v hw hz]; grind
/-- the form hangs on the first members alone -/
theorem B_eq {N : Nat} (p : List Rat) {u u' : Nat → Rat} (v : Nat → Rat) (hu : FS N u) (hu' : FS N u') (he : ∀ k, k + 1 < p.length → u k = u' k) : B N p u v = B N p u' v := by
  have h := B_none (N := N) p (w := fun k => u k + (-1) * u' k) v (fun k hk => by have q1 := hu k hk; have q2 := hu' k hk; grind) (fun k hk => by have q1 := he k hk; grind)
  rw [B_add N p u (fun k => -1 * u' k) v, B_smul] at h
  grind

/-! ### products of two -/
structure IsProd (P f g : List Rat) : Prop where
  len : P.length = f.length + g.length - 1
  at_ : ∀ u k, act P u k = act f (act g u) k
  rev : ∀ u k, act P.reverse u k = act f.reverse (act g.reverse u) k
theorem isProd_conv (f g : List Rat) (hf : f ≠ []) (hg : g ≠ []) : IsProd (conv f g) f g := ⟨conv_length f g hg, act_conv f g hg, act_convR f g hf hg⟩
theorem B_prod {N : Nat} {P f g : List Rat} (h : IsProd P f g) (u v : Nat → Rat) : B N P u v = B N f (act g.reverse u) (act g.reverse v) + B N g (act f u) (act f v) := by
  unfold B
  rw [← bs_add]
  refine bs_congr (fun s => ?_) N
  simp only [h.at_, h.rev]
  rw [act_comm f g.reverse u s, act_comm f g.reverse v s, act_comm g f u s, act_comm g f v s]; grind

/-! ### factors of degree one, two -/
theorem B_lin {N : Nat} (a : Rat) {w : Nat → Rat} (hw : FS N w) : B N [a, 1] w w = (1 - a * a) * (w 0 * w 0) := by
  have e : B N [a, 1] w w = bs (fun s => (-(1 - a * a)) * ((fun j => w j * w j) (s + 1) - w s * w s)) N := by
    unfold B
    refine bs_congr (fun s => ?_) N
    simp only [List.reverse_cons, List.reverse_nil, List.nil_append, List.cons_append, act]; grind
  rw [e, bs_mul, bs_sub, bs_tel (fun j => w j * w j) N, hw N (Nat.le_refl _)]; grind
theorem B_quad {N : Nat} (c b : Rat) {w : Nat → Rat} (hw : FS N w) : B N [c, b, 1] w w = (1 - c) * ((1 + c) * (w 0 * w 0 + w 1 * w 1) + 2 * b * (w 0 * w 1)) := by
  have e : B N [c, b, 1] w w = bs (fun s => (-(1 - c)) * ((fun j => (1 + c) * (w j * w j + w (j + 1) * w (j + 1)) + 2 * b * (w j * w (j + 1))) (s + 1) - (fun j => (1 + c) * (w j * w j + w (j + 1) * w (j + 1)) + 2 * b * (w j * w (j + 1))) s)) N := by
    unfold B
    refine bs_congr (fun s => ?_) N
    simp only [List.reverse_cons, List.reverse_nil, List.nil_append, List.cons_append, act]; grind
  rw [e, bs_mul, bs_sub, bs_tel (fun j => (1 + c) * (w j * w j + w (j + 1) * w (j + 1)) + 2 * b * (w j * w (j + 1))) N, hw N (Nat.le_refl _), hw (N + 1) (by omega)]; grind

/-- factors whose roots are within 1 -/
inductive In : List Rat → Prop
  | lin (a : Rat) (h : a * a < 1) : In [a, 1]
  | quad (q p : Rat) (h1 : q * q < 1) (h2 : p * p < (1 + q) * (1 + q)) : In [q, p, 1]
/-- factors with a root of size 1 or more -/
inductive Out : List Rat → Prop
  | lin (a : Rat) (h : 1 ≤ a * a) : Out [a, 1]
  | quad (c b : Rat) (h : ∀ x y : Rat, (1 - c) * ((1 + c) * (x * x + y * y) + 2 * b * (x * y)) ≤ 0) : Out [c, b, 1]

theorem pos_of_sq {a : Rat} (h : a * a < 1) : -1 < a ∧ a < 1 := by
  refine ⟨?_, ?_⟩
  · refine Rat.not_le.mp fun g => ?_
    have : 0 ≤ (-1 - a) * (-1 - a) + 2 * (-1 - a) := by
      have h1 := sq_nonneg (-1 - a)
      grind
    grind
  · refine Rat.not_le.mp fun g => ?_
    have : 0 ≤ (a - 1) * (a - 1) + 2 * (a - 1) := by
      have h1 := sq_nonneg (a - 1)
      grind
    grind
/-- a positive form of two -/
theorem form2 {A C D : Rat} (hA : 0 < A) (hD : D * D < A * C) (x y : Rat) : 0 ≤ A * (x * x) + 2 * D * (x * y) + C * (y * y) ∧ (A * (x * x) + 2 * D * (x * y) + C * (y * y) = 0 → x = 0 ∧ y = 0) := by
  have e : A * (A * (x * x) + 2 * D * (x * y) + C * (y * y)) = (A * x + D * y) * (A * x + D * y) + (A * C - D * D) * (y * y) := by grind
  have s1 := sq_nonneg (A * x + D * y)
  have s2 := sq_nonneg y
  have d : 0 < A * C - D * D := by grind
  have s3 := Rat.mul_nonneg (Rat.le_of_lt d) s2
  refine ⟨?_, fun z => ?_⟩
  · refine Rat.not_lt.mp fun g => ?_
    have := (Rat.mul_neg_iff_of_pos_left hA).mpr g
    grind
  · rw [z] at e
    have t1 : (A * C - D * D) * (y * y) = 0 := by grind
    have t2 : (A * x + D * y) * (A * x + D * y) = 0 := by grind
    have y0 : y = 0 := by
      rcases Rat.mul_eq_zero.mp t1 with g | g
      · grind
      · exact sq_zero g
    have t3 := sq_zero t2
    rw [y0] at t3
    have : A * x = 0 := by grind
    rcases Rat.mul_eq_zero.mp this with g | g
    · grind
    · exact ⟨g, y0⟩
theorem quad_ok {q p : Rat} (h1 : q * q < 1) (h2 : p * p < (1 + q) * (1 + q)) (x y : Rat) : 0 ≤ (1 - q) * ((1 + q) * (x * x + y * y) + 2 * p * (x * y)) ∧ ((1 - q) * ((1 + q) * (x * x + y * y) + 2 * p * (x * y)) = 0 → x = 0 ∧ y = 0) := by
  obtain ⟨a, b⟩ := pos_of_sq h1
  obtain ⟨f1, f2⟩ := form2 (A := 1 + q) (C := 1 + q) (D := p) (by grind) h2 x y
  have e : (1 + q) * (x * x + y * y) + 2 * p * (x * y) = (1 + q) * (x * x) + 2 * p * (x * y) + (1 + q) * (y * y) := by grind
  rw [e]
  refine ⟨Rat.mul_nonneg (by grind) f1, fun z => ?_⟩
  rcases Rat.mul_eq_zero.mp z with g | g
  · grind
  · exact f2 g

theorem PD_prod_in {P f g : List Rat} {l : Nat} (hf : In f) (hg : g.length = l + 1) (h : IsProd P f g) (hp : PD l g) (g0 : g.getLastD 0 ≠ 0) : PD (P.length - 1) P := by
  have hl := h.len
  intro N u hu
  rw [B_prod h]
  obtain ⟨p1, p2⟩ := hp N (act f u) (act_fs hu f)
  have hG := act_fs hu g.reverse
  -- g of one member
  have one : l = 0 → ∀ k, act g.reverse u k = 0 → u k = 0 := fun e k hk => by
    subst e
    obtain ⟨c, rfl⟩ := List.length_eq_one_iff.mp hg
    simp only [List.reverse_singleton, act] at hk
    have : c * u k = 0 := by grind
    rcases Rat.mul_eq_zero.mp this with q | q
    · exact absurd (by simpa using q) g0
    · exact q
  cases hf with
  | lin a ha =>
    rw [B_lin a hG]
    have hd : 0 < 1 - a * a := by grind
    have s := Rat.mul_nonneg (Rat.le_of_lt hd) (sq_nonneg (act g.reverse u 0))
    refine ⟨by grind, fun z k hk => ?_⟩
    have z1 : (1 - a * a) * (act g.reverse u 0 * act g.reverse u 0) = 0 := by grind
    have z2 : B N g (act [a, 1] u) (act [a, 1] u) = 0 := by grind
    have c1 : act g.reverse u 0 = 0 := by
      rcases Rat.mul_eq_zero.mp z1 with q | q
      · grind
      · exact sq_zero q
    have c2 := p2 z2
    simp only [List.length_cons, List.length_nil] at hl
    by_cases hl0 : l = 0
    · have : k = 0 := by omega
      subst this
      exact one hl0 0 c1
    · have c3 : ∀ j, j < l → u (j + 1) = -a * u j := fun j hj => by
        have := c2 j hj
        simp only [act] at this; grind
      have hs := B_sh g hu (v := u)
      rw [c1] at hs
      have e1 : B N g (sh u) (sh u) = (-a) * ((-a) * B N g u u) := by
        have fsu : FS N (fun j => -a * u j) := fun j hj => by have q1 := hu j hj; grind
        rw [B_eq (N := N) g (u := sh u) (u' := fun j => -a * u j) (sh u) (sh_fs hu) fsu (fun j hj => c3 j (by omega)), B_smul, B_comm,
          B_eq (N := N) g (u := sh u) (u' := fun j => -a * u j) u (sh_fs hu) fsu (fun j hj => c3 j (by omega)), B_smul]
      obtain ⟨r1, r2⟩ := hp N u hu
      have s2 := sq_nonneg (act g u 0)
      have s3 := Rat.mul_nonneg (Rat.le_of_lt hd) r1
      have z3 : (1 - a * a) * B N g u u = 0 := by grind
      have z4 : B N g u u = 0 := by
        rcases Rat.mul_eq_zero.mp z3 with q | q
        · grind
        · exact q
      have c4 := r2 z4
      by_cases hk2 : k < l
      · exact c4 k hk2
      · have : k = (l - 1) + 1 := by omega
        rw [this, c3 (l - 1) (by omega), c4 (l - 1) (by omega)]; grind
  | quad q p h1 h2 =>
    rw [B_quad q p hG]
    obtain ⟨f1, f2⟩ := quad_ok h1 h2 (act g.reverse u 0) (act g.reverse u 1)
    refine ⟨by grind, fun z k hk => ?_⟩
    have z2 : B N g (act [q, p, 1] u) (act [q, p, 1] u) = 0 := by grind
    obtain ⟨c0, c1⟩ := f2 (by grind)
    have c2 := p2 z2
    simp only [List.length_cons, List.length_nil] at hl
    by_cases hl0 : l = 0
    · have : k = 0 ∨ k = 1 := by omega
      rcases this with rfl | rfl
      · exact one hl0 0 c0
      · exact one hl0 1 c1
    · have c3 : ∀ j, j < l → u (j + 1 + 1) = -p * u (j + 1) + -q * u j := fun j hj => by
        have := c2 j hj
        simp only [act] at this; grind
      have fs1 := sh_fs hu
      have fs2 := sh_fs fs1
      have fsc : FS N (fun j => -p * sh u j + -q * u j) := fun j hj => by have q1 := hu j hj; have q2 := fs1 j hj; grind
      have a1 : act g.reverse (sh u) 0 = 0 := by rw [act_sh]; exact c1
      have t1 := B_sh g hu (v := u)
      have t2 := B_sh g hu (v := sh u)
      have t3 := B_sh g fs1 (v := sh u)
      rw [c0] at t1 t2
      rw [a1] at t3
      have agree : ∀ j, j + 1 < g.length → sh (sh u) j = (fun j => -p * sh u j + -q * u j) j := fun j hj => c3 j (by omega)
      have l1 : ∀ v, B N g (fun j => -p * sh u j + -q * u j) v = -p * B N g (sh u) v + -q * B N g u v := fun v => by
        rw [B_add N g (fun j => -p * sh u j) (fun j => -q * u j) v, B_smul, B_smul]
      have s12 : B N g (sh u) (sh (sh u)) = -p * B N g (sh u) (sh u) + -q * B N g u (sh u) := by
        rw [B_comm, B_eq (N := N) g (sh u) fs2 fsc agree, l1]
      have s22 : B N g (sh (sh u)) (sh (sh u)) = -p * B N g (sh u) (sh (sh u)) + -q * B N g u (sh (sh u)) := by
        rw [B_eq (N := N) g (sh (sh u)) fs2 fsc agree, l1]
      have s02 : B N g u (sh (sh u)) = -p * B N g u (sh u) + -q * B N g u u := by
        rw [B_comm, B_eq (N := N) g u fs2 fsc agree, l1, B_comm N g (sh u) u]
      obtain ⟨b1, b2⟩ := pos_of_sq h1
      have d1 : 0 < (1 + q) * (1 + q) - p * p := by grind
      have d2 : 0 < (1 - q) * ((1 + q) * (1 + q) - p * p) := Rat.mul_pos (by grind) d1
      have hA : 0 < 1 + q := by grind
      obtain ⟨w1, w2⟩ := form2 (A := 1 + q) (C := (1 + q) - (1 - q) * (p * p)) (D := p * q) hA (by grind) (act g (sh u) 0) (act g u 0)
      obtain ⟨r1, r2⟩ := hp N u hu
      obtain ⟨r3, r4⟩ := hp N (sh u) fs1
      obtain ⟨r5, r6⟩ := hp N (sh (sh u)) fs2
      generalize B N g u u = S00 at *
      generalize B N g u (sh u) = S01 at *
      generalize B N g (sh u) (sh u) = S11 at *
      generalize B N g (sh u) (sh (sh u)) = S12 at *
      generalize B N g u (sh (sh u)) = S02 at *
      generalize B N g (sh (sh u)) (sh (sh u)) = S22 at *
      generalize act g (sh u) 0 = G1 at *
      generalize act g u 0 = G0 at *
      have key : (1 - q) * ((1 + q) * (1 + q) - p * p) * S00 + ((1 + q) * (G1 * G1) + 2 * (p * q) * (G1 * G0) + ((1 + q) - (1 - q) * (p * p)) * (G0 * G0)) = 0 := by grind
      have k1 := Rat.mul_nonneg (Rat.le_of_lt d2) r1
      have k2 : (1 - q) * ((1 + q) * (1 + q) - p * p) * S00 = 0 := by grind
      have k3 : (1 + q) * (G1 * G1) + 2 * (p * q) * (G1 * G0) + ((1 + q) - (1 - q) * (p * p)) * (G0 * G0) = 0 := by grind
      obtain ⟨g1, g0'⟩ := w2 k3
      have k4 : S00 = 0 := by
        rcases Rat.mul_eq_zero.mp k2 with x | x
        · grind
        · exact x
      have k5 : S11 = 0 := by grind
      have k6 : S22 = 0 := by grind
      have v0 := r2 k4
      have v1 := r4 k5
      have v2 := r6 k6
      by_cases hk2 : k < l
      · exact v0 k hk2
      · by_cases hk3 : k < l + 1
        · have e : k = (l - 1) + 1 := by omega
          rw [e]; exact v1 (l - 1) (by omega)
        · have e : k = (l - 1) + 1 + 1 := by omega
          rw [e]; exact v2 (l - 1) (by omega)

def rec2 (b c : Rat) : Nat → Rat × Rat
  | 0 => (1, 0)
  | n + 1 => ((rec2 b c n).2, -b * (rec2 b c n).2 - c * (rec2 b c n).1)
def powr (a : Rat) : Nat → Rat
  | 0 => 1
  | n + 1 => a * powr a n
theorem not_PD_out {P f g : List Rat} {l : Nat} (hf : Out f) (hg : g.length = l + 1) (h : IsProd P f g) (hp : PD (P.length - 1) P) : False := by
  have hl := h.len
  cases hf with
  | lin a ha =>
    simp only [List.length_cons, List.length_nil] at hl
    let u : Nat → Rat := fun k => if k < l + 1 then powr (-a) k else 0
    have hu : FS (l + 1) u := fun k hk => if_neg (by omega)
    obtain ⟨p1, p2⟩ := hp (l + 1) u hu
    rw [B_prod h, B_lin a (act_fs hu g.reverse), B_none (N := l + 1) g _ (act_fs hu _) (fun k hk => by
      have e1 : u k = powr (-a) k := if_pos (by omega)
      have e2 : u (k + 1) = powr (-a) (k + 1) := if_pos (by omega)
      simp only [act, e1, e2, powr]; grind)] at p1 p2
    have s := sq_nonneg (act g.reverse u 0)
    have hd : 0 ≤ a * a - 1 := by grind
    have s2 := Rat.mul_nonneg hd s
    have := p2 (by grind) 0 (by omega)
    have e : u 0 = powr (-a) 0 := if_pos (by omega)
    rw [e] at this
    simp [powr] at this
  | quad c b hq =>
    simp only [List.length_cons, List.length_nil] at hl
    let u : Nat → Rat := fun k => if k < l + 2 then (rec2 b c k).1 else 0
    have hu : FS (l + 2) u := fun k hk => if_neg (by omega)
    obtain ⟨p1, p2⟩ := hp (l + 2) u hu
    rw [B_prod h, B_quad c b (act_fs hu g.reverse), B_none (N := l + 2) g _ (act_fs hu _) (fun k hk => by
      have e1 : u k = (rec2 b c k).1 := if_pos (by omega)
      have e2 : u (k + 1) = (rec2 b c (k + 1)).1 := if_pos (by omega)
      have e3 : u (k + 1 + 1) = (rec2 b c (k + 1 + 1)).1 := if_pos (by omega)
      simp only [act, e1, e2, e3, rec2]; grind)] at p1 p2
    have s := hq (act g.reverse u 0) (act g.reverse u 1)
    have := p2 (by grind) 0 (by omega)
    have e : u 0 = (rec2 b c 0).1 := if_pos (by omega)
    rw [e] at this
    simp [rec2] at this
end SC
end
section
/-! What the test of relations answers at products of told factors. Plain Lean. -/
set_option maxHeartbeats 1000000
namespace SC

/-! ### lists by what they do -/
theorem act_e0_later (p : List Rat) (c : Rat) (k : Nat) (hk : 1 ≤ k) : act p (e0 c) k = 0 := act_fs (e0_fs c) p k hk
theorem act_head (a : Rat) (r : List Rat) : act (a :: r) (e0 1) 0 = a := by rw [act_e0]; grind
theorem ext_act : ∀ (p q : List Rat), p.length = q.length → (∀ u k, act p u k = act q u k) → p = q
  | [], [], _, _ => rfl
  | [], b :: q, h, _ => by simp at h
  | a :: p, [], h, _ => by simp at h
  | a :: p, b :: q, h, he => by
    have h1 := he (e0 1) 0
    rw [act_head, act_head] at h1
    subst h1
    have h2 : p = q := ext_act p q (by simpa using h) fun u k => by
      have e := he (fun j => match j with | 0 => 0 | j + 1 => u j) k
      simp only [act] at e
      have s1 := act_sh p (fun j => match j with | 0 => 0 | j + 1 => u j) k
      have s2 := act_sh q (fun j => match j with | 0 => 0 | j + 1 => u j) k
      have z : sh (fun j => match j with | 0 => (0 : Rat) | j + 1 => u j) = u := rfl
      rw [z] at s1 s2
      grind
    rw [h2]
theorem conv_ne (f g : List Rat) (hg : g ≠ []) : conv f g ≠ [] ∨ f = [] := by
  cases f with
  | nil => exact .inr rfl
  | cons a r =>
    refine .inl fun e => ?_
    have := congrArg List.length e
    rw [conv_length _ g hg] at this
    have h2 := List.length_pos_iff.mpr hg
    simp only [List.length_cons, List.length_nil] at this
    omega
theorem conv_ne' {f g : List Rat} (hf : f ≠ []) (hg : g ≠ []) : conv f g ≠ [] := (conv_ne f g hg).resolve_right hf
theorem conv_comm (f g : List Rat) (hf : f ≠ []) (hg : g ≠ []) : conv f g = conv g f :=
  ext_act _ _ (by rw [conv_length f g hg, conv_length g f hf]; omega) fun u k => by rw [act_conv f g hg, act_conv g f hf, act_comm]
theorem conv_assoc (f g h : List Rat) (hf : f ≠ []) (hg : g ≠ []) (hh : h ≠ []) : conv (conv f g) h = conv f (conv g h) :=
  ext_act _ _ (by
    have l1 := List.length_pos_iff.mpr hf
    have l2 := List.length_pos_iff.mpr hg
    have l3 := List.length_pos_iff.mpr hh
    rw [conv_length _ h hh, conv_length f g hg, conv_length f _ (conv_ne' hg hh), conv_length g h hh]; omega) fun u k => by
    have e : act (conv g h) u = act g (act h u) := funext fun j => act_conv g h hh u j
    rw [act_conv _ h hh, act_conv f g hg, act_conv f _ (conv_ne' hg hh), e]

/-- the product of some -/
def prod (fs : List (List Rat)) : List Rat := fs.foldr conv [1]
theorem prod_ne : ∀ (fs : List (List Rat)), (∀ f ∈ fs, f ≠ []) → prod fs ≠ []
  | [], _ => by simp [prod]
  | f :: fs, h => conv_ne' (h f List.mem_cons_self) (prod_ne fs fun g hg => h g (List.mem_cons_of_mem _ hg))
theorem one_conv (g : List Rat) (hg : g ≠ []) : conv [1] g = g :=
  ext_act _ _ (by rw [conv_length _ g hg]; simp) fun u k => by rw [act_conv _ g hg]; simp only [act]; grind
theorem foldl_conv : ∀ (fs : List (List Rat)) (a : List Rat), a ≠ [] → (∀ f ∈ fs, f ≠ []) → fs.foldl conv a = conv a (prod fs)
  | [], a, ha, _ => by
    show a = conv a [1]
    rw [conv_comm a [1] ha (by simp), one_conv a ha]
  | f :: fs, a, ha, h => by
    have hf := h f List.mem_cons_self
    have hr := fun g hg => h g (List.mem_cons_of_mem f hg)
    show fs.foldl conv (conv a f) = conv a (conv f (prod fs))
    rw [foldl_conv fs (conv a f) (conv_ne' ha hf) hr, conv_assoc a f _ ha hf (prod_ne fs hr)]
theorem foldl_prod (fs : List (List Rat)) (h : ∀ f ∈ fs, f ≠ []) : fs.foldl conv [1] = prod fs := by
  rw [foldl_conv fs [1] (by simp) h, one_conv _ (prod_ne fs h)]
/-- one of them taken out -/
theorem prod_erase {f : List Rat} : ∀ (fs : List (List Rat)), (∀ f ∈ fs, f ≠ []) → f ∈ fs → prod fs = conv f (prod (fs.erase f))
  | [], _, hm => by simp at hm
  | g :: fs, h, hm => by
    by_cases e : g = f
    · subst e
      rw [List.erase_cons_head]
      rfl
    · have hm' : f ∈ fs := by
        rcases List.mem_cons.mp hm with q | q
        · exact absurd q.symm e
        · exact q
      have hr := fun x hx => h x (List.mem_cons_of_mem g hx)
      have hg := h g List.mem_cons_self
      have hf := hr f hm'
      rw [List.erase_cons_tail (by simpa using e)]
      show conv g (prod fs) = conv f (conv g (prod (fs.erase f)))
      have hpe := prod_ne (fs.erase f) fun x hx => hr x (List.mem_of_mem_erase hx)
      rw [prod_erase fs hr hm', ← conv_assoc g f _ hg hf hpe, conv_comm g f hg hf, conv_assoc f g _ hf hg hpe]

/-! ### the last number, the value at 1 -/
theorem last_rev (p : List Rat) (h : p ≠ []) : act p.reverse (e0 1) 0 = p.getLastD 0 := by
  obtain ⟨a, r, e⟩ := List.exists_cons_of_ne_nil (l := p.reverse) (by simpa using h)
  rw [e, act_head]
  have : p.reverse.head? = some a := by rw [e]; rfl
  rw [List.head?_reverse] at this
  rw [List.getLastD_eq_getLast?, this]; rfl
theorem rev_e0 (p : List Rat) (h : p ≠ []) (c : Rat) : act p.reverse (e0 c) = e0 (p.getLastD 0 * c) := by
  funext k
  cases k with
  | zero =>
    have e : e0 c = fun j => c * e0 1 j := by funext j; simp only [e0]; split <;> grind
    rw [e, act_smul, last_rev p h]
    simp only [e0, if_true]; grind
  | succ k => rw [act_e0_later _ _ _ (by omega)]; simp [e0]
theorem last_conv (f g : List Rat) (hf : f ≠ []) (hg : g ≠ []) : (conv f g).getLastD 0 = f.getLastD 0 * g.getLastD 0 := by
  rw [← last_rev _ (conv_ne' hf hg), act_convR f g hf hg, rev_e0 g hg, rev_e0 f hf]
  simp only [e0, if_true]; grind
theorem last_prod : ∀ (fs : List (List Rat)), (∀ f ∈ fs, f ≠ [] ∧ f.getLastD 0 = 1) → (prod fs).getLastD 0 = 1
  | [], _ => rfl
  | f :: fs, h => by
    have hf := h f List.mem_cons_self
    have hr := fun g hg => h g (List.mem_cons_of_mem f hg)
    show (conv f (prod fs)).getLastD 0 = 1
    rw [last_conv f _ hf.1 (prod_ne fs fun g hg => (hr g hg).1), hf.2, last_prod fs hr]; grind
def sumR : List Rat → Rat
  | [] => 0
  | a :: r => a + sumR r
theorem act_const (p : List Rat) (c : Rat) (k : Nat) : act p (fun _ => c) k = sumR p * c := by
  induction p generalizing k with
  | nil => simp [act, sumR]
  | cons a r ih => simp only [act, ih, sumR]; grind
theorem sum_conv (f g : List Rat) (hg : g ≠ []) : sumR (conv f g) = sumR f * sumR g := by
  have h := act_conv f g hg (fun _ => 1) 0
  rw [act_const] at h
  have e : act g (fun _ => 1) = fun _ => sumR g * 1 := funext fun j => act_const g 1 j
  rw [e, act_const] at h
  grind
theorem sum_prod_ne : ∀ (fs : List (List Rat)), (∀ f ∈ fs, f ≠ [] ∧ sumR f ≠ 0) → sumR (prod fs) ≠ 0
  | [], _ => by simp only [prod, List.foldr_nil, sumR]; grind
  | f :: fs, h => by
    have hf := h f List.mem_cons_self
    have hr := fun g hg => h g (List.mem_cons_of_mem f hg)
    show sumR (conv f (prod fs)) ≠ 0
    rw [sum_conv f _ (prod_ne fs fun g hg => (hr g hg).1)]
    intro e
    rcases Rat.mul_eq_zero.mp e with q | q
    · exact hf.2 q
    · exact sum_prod_ne fs hr q

/-! ### the root 1 taken out -/
/-- the sums of all ends -/
def ends : List Rat → List Rat
  | [] => []
  | a :: r => sumR (a :: r) :: ends r
def dif : Rat → List Rat → List Rat
  | p, [] => [p]
  | p, b :: g => (p - b) :: dif b g
theorem sum_dif : ∀ (g : List Rat) (p : Rat), sumR (dif p g) = p
  | [], p => by simp only [dif, sumR]; grind
  | b :: g, p => by simp only [dif, sumR, sum_dif g b]; grind
theorem ends_dif : ∀ (g : List Rat) (p : Rat), ends (dif p g) = p :: g
  | [], p => by simp only [dif, ends, sumR]; congr 1; grind
  | b :: g, p => by
    have h := sum_dif (b :: g) p
    simp only [dif] at h ⊢
    simp only [ends, h, ends_dif g b]
theorem dif_length : ∀ (g : List Rat) (p : Rat), (dif p g).length = g.length + 1
  | [], _ => rfl
  | b :: g, p => by simp only [dif, List.length_cons, dif_length g b]
theorem act_dif : ∀ (g : List Rat) (p : Rat) (u : Nat → Rat) (k : Nat), act (dif p g) u k = p * u k + act g u (k + 1) - act g u k
  | [], p, u, k => by simp only [dif, act]; grind
  | b :: g, p, u, k => by simp only [dif, act, act_dif g b]; grind
theorem one_dif (g : List Rat) (hg : g ≠ []) : conv [-1, 1] g = dif 0 g :=
  ext_act _ _ (by rw [conv_length _ g hg, dif_length]; simp; omega) fun u k => by
    rw [act_conv _ g hg, act_dif]; simp only [act]; grind
theorem ends_one (g : List Rat) (hg : g ≠ []) : ends (conv [-1, 1] g).tail = g := by
  rw [one_dif g hg]
  cases g with
  | nil => exact absurd rfl hg
  | cons b g => simp only [dif, List.tail_cons, ends_dif]

/-! ### products of roots within 1, of others -/
theorem PD_one : PD 0 [1] := fun N u _ => by rw [B_one]; exact ⟨Rat.le_refl, fun _ k hk => absurd hk (by omega)⟩
theorem In.facts {f : List Rat} (h : In f) : f ≠ [] ∧ f.getLastD 0 = 1 := by cases h <;> exact ⟨by simp, rfl⟩
theorem Out.facts {f : List Rat} (h : Out f) : f ≠ [] ∧ f.getLastD 0 = 1 := by cases h <;> exact ⟨by simp, rfl⟩
theorem PD_in : ∀ (fs : List (List Rat)), (∀ f ∈ fs, In f) → PD ((prod fs).length - 1) (prod fs)
  | [], _ => PD_one
  | f :: fs, h => by
    have hf := h f List.mem_cons_self
    have hr := fun g hg => h g (List.mem_cons_of_mem f hg)
    have hn := prod_ne fs fun g hg => (hr g hg).facts.1
    have hl := List.length_pos_iff.mpr hn
    exact PD_prod_in (g := prod fs) (l := (prod fs).length - 1) hf (by omega) (isProd_conv f _ hf.facts.1 hn) (PD_in fs hr) (by rw [last_prod fs fun g hg => (hr g hg).facts]; grind)
theorem within_in (fs : List (List Rat)) (h : ∀ f ∈ fs, In f) : within ((prod fs).length - 1) (prod fs) = true := by
  have hl := List.length_pos_iff.mpr (prod_ne fs fun g hg => (h g hg).facts.1)
  exact within_of_pd _ _ (by omega) (by rw [last_prod fs fun g hg => (h g hg).facts]; grind) (PD_in fs h)
theorem within_out (fs : List (List Rat)) (h : ∀ f ∈ fs, In f ∨ Out f) (f : List Rat) (hm : f ∈ fs) (ho : Out f) : within ((prod fs).length - 1) (prod fs) = false := by
  have ha : ∀ g ∈ fs, g ≠ [] ∧ g.getLastD 0 = 1 := fun g hg => (h g hg).elim In.facts Out.facts
  have hn := prod_ne fs fun g hg => (ha g hg).1
  have hl := List.length_pos_iff.mpr hn
  cases q : within ((prod fs).length - 1) (prod fs) with
  | false => rfl
  | true =>
    have hp := pd_of_within _ _ (by omega) (by rw [last_prod fs ha]; grind) q
    have he := prod_erase fs (fun g hg => (ha g hg).1) hm
    have hne := prod_ne (fs.erase f) fun g hg => (ha g (List.mem_of_mem_erase hg)).1
    have hle := List.length_pos_iff.mpr hne
    rw [he] at hp
    exact (not_PD_out (l := (prod (fs.erase f)).length - 1) ho (by omega) (isProd_conv f _ (ha f hm).1 hne) hp).elim

/-! ### the test on whole numbers -/
def aw : Nat → List Int → Bool
  | 0, _ => true
  | n + 1, l => if l.length ≤ 1 then true else if (l.headD 0).natAbs < (l.getLastD 0).natAbs then
      aw n (small (List.zipWith (fun a b => l.getLastD 0 * a - l.headD 0 * b) l l.reverse).tail) else false
where
  small (l : List Int) : List Int := if 1 < (l.foldl (fun g x => Nat.gcd g x.natAbs) 0) then l.map fun x => x / ((l.foldl (fun g x => Nat.gcd g x.natAbs) 0 : Nat) : Int) else l

def cast (l : List Int) : List Rat := l.map fun (x : Int) => (x : Rat)
theorem headD_map (l : List Int) : (cast l).headD 0 = ((l.headD 0 : Int) : Rat) := by cases l <;> rfl
theorem lastD_map (l : List Int) : (cast l).getLastD 0 = ((l.getLastD 0 : Int) : Rat) := by
  rw [List.getLastD_eq_getLast?, List.getLastD_eq_getLast?]
  unfold cast
  rw [List.getLast?_map]
  cases l.getLast? <;> rfl
theorem headD_scale (c : Rat) (l : List Rat) : (l.map fun a => c * a).headD 0 = c * l.headD 0 := by
  cases l with
  | nil => simp
  | cons a r => rfl
theorem lastD_scale (c : Rat) (l : List Rat) : (l.map fun a => c * a).getLastD 0 = c * l.getLastD 0 := by
  rw [List.getLastD_eq_getLast?, List.getLastD_eq_getLast?, List.getLast?_map]
  cases l.getLast? with
  | none => simp
  | some a => rfl
theorem zip_scale (t f c : Rat) : ∀ (l m : List Rat), List.zipWith (fun a b => (c * t) * a - (c * f) * b) (l.map fun a => c * a) (m.map fun a => c * a) = (List.zipWith (fun a b => t * a - f * b) l m).map fun a => (c * c) * a
  | [], _ => by simp
  | a :: l, [] => by simp
  | a :: l, b :: m => by
    simp only [List.map_cons, List.zipWith_cons_cons, zip_scale t f c l m]
    congr 1; grind
theorem stepR_scale (c : Rat) (l : List Rat) : stepR (l.map fun a => c * a) = (stepR l).map fun a => (c * c) * a := by
  unfold stepR
  rw [headD_scale, lastD_scale, ← List.map_reverse, zip_scale, List.map_tail]
theorem within_scale : ∀ (n : Nat) (c : Rat) (l : List Rat), c ≠ 0 → within n (l.map fun a => c * a) = within n l
  | 0, _, _, _ => rfl
  | n + 1, c, l, hc => by
    have hcc : 0 < c * c := by
      have := sq_nonneg c
      rcases Rat.le_iff_lt_or_eq.mp this with g | g
      · exact g
      · exact absurd (sq_zero g.symm) hc
    unfold within
    rw [List.length_map, headD_scale, lastD_scale, stepR_scale, within_scale n (c * c) (stepR l) (by grind)]
    have e1 : c * l.headD 0 * (c * l.headD 0) = c * c * (l.headD 0 * l.headD 0) := by grind
    have e2 : c * l.getLastD 0 * (c * l.getLastD 0) = c * c * (l.getLastD 0 * l.getLastD 0) := by grind
    rw [e1, e2]
    by_cases q : l.headD 0 * l.headD 0 < l.getLastD 0 * l.getLastD 0
    · rw [if_pos q, if_pos ((Rat.mul_lt_mul_left hcc).mpr q)]
    · rw [if_neg q, if_neg (fun z => q ((Rat.mul_lt_mul_left hcc).mp z))]

theorem gcd_fold_dvd : ∀ (l : List Int) (g : Nat), (l.foldl (fun g x => Nat.gcd g x.natAbs) g ∣ g) ∧ ∀ x ∈ l, l.foldl (fun g x => Nat.gcd g x.natAbs) g ∣ x.natAbs
  | [], g => ⟨Nat.dvd_refl g, by simp⟩
  | a :: l, g => by
    obtain ⟨h1, h2⟩ := gcd_fold_dvd l (Nat.gcd g a.natAbs)
    refine ⟨Nat.dvd_trans h1 (Nat.gcd_dvd_left _ _), fun x hx => ?_⟩
    rcases List.mem_cons.mp hx with rfl | hx
    · exact Nat.dvd_trans h1 (Nat.gcd_dvd_right _ _)
    · exact h2 x hx
theorem cast_small (l : List Int) : ∃ c : Rat, c ≠ 0 ∧ cast (aw.small l) = (cast l).map fun a => c * a := by
  unfold aw.small
  have hd := (gcd_fold_dvd l 0).2
  generalize l.foldl (fun g x => Nat.gcd g x.natAbs) 0 = g at *
  split
  · rename_i hg
    have hg0 : ((g : Int) : Rat) ≠ 0 := by
      intro e
      have := Rat.intCast_eq_zero_iff.mp e
      omega
    refine ⟨((g : Int) : Rat)⁻¹, fun e => ?_, ?_⟩
    · have := Rat.mul_inv_cancel _ hg0
      rw [e] at this
      grind
    · unfold cast
      rw [List.map_map, List.map_map]
      refine List.map_congr_left fun x hx => ?_
      have hx' : (g : Int) ∣ x := by
        have := hd x hx
        exact Int.ofNat_dvd_left.mpr this
      obtain ⟨y, rfl⟩ := hx'
      show (((g : Int) * y / (g : Int) : Int) : Rat) = ((g : Int) : Rat)⁻¹ * (((g : Int) * y : Int) : Rat)
      rw [Int.mul_ediv_cancel_left _ (by omega), Rat.intCast_mul, ← Rat.mul_assoc, Rat.inv_mul_cancel _ hg0, Rat.one_mul]
  · refine ⟨1, by grind, ?_⟩
    have e : (fun a : Rat => 1 * a) = id := by funext a; simp
    rw [e, List.map_id]
theorem zip_cast (t f : Int) : ∀ (l m : List Int), cast (List.zipWith (fun a b => t * a - f * b) l m) = List.zipWith (fun a b => (t : Rat) * a - (f : Rat) * b) (cast l) (cast m)
  | [], _ => rfl
  | a :: l, [] => rfl
  | a :: l, b :: m => by
    have ih := zip_cast t f l m
    unfold cast at ih ⊢
    simp only [List.map_cons, List.zipWith_cons_cons, ih]
    congr 1
    rw [Rat.intCast_sub, Rat.intCast_mul, Rat.intCast_mul]
theorem sq_lt_iff (a b : Int) : ((a : Rat) * a < (b : Rat) * b) ↔ a.natAbs < b.natAbs := by
  rw [← Rat.intCast_mul, ← Rat.intCast_mul, Rat.intCast_lt_intCast, ← Int.natAbs_mul_self' a, ← Int.natAbs_mul_self' b]
  constructor
  · intro h
    refine Nat.lt_of_not_le fun g => ?_
    have : b.natAbs * b.natAbs ≤ a.natAbs * a.natAbs := Nat.mul_le_mul g g
    have h' : ((a.natAbs * a.natAbs : Nat) : Int) < ((b.natAbs * b.natAbs : Nat) : Int) := by simpa using h
    omega
  · intro h
    have : a.natAbs * a.natAbs < b.natAbs * b.natAbs := Nat.mul_lt_mul'' h h
    have h' : ((a.natAbs * a.natAbs : Nat) : Int) < ((b.natAbs * b.natAbs : Nat) : Int) := by omega
    simpa using h'
theorem aw_within : ∀ (n : Nat) (l : List Int), aw n l = within n (cast l)
  | 0, _ => rfl
  | n + 1, l => by
    unfold aw within
    have el : (cast l).length = l.length := by simp [cast]
    rw [el, headD_map, lastD_map, aw_within n]
    by_cases h1 : l.length ≤ 1
    · rw [if_pos h1, if_pos h1]
    · rw [if_neg h1, if_neg h1]
      by_cases h2 : (l.headD 0).natAbs < (l.getLastD 0).natAbs
      · rw [if_pos h2, if_pos ((sq_lt_iff _ _).mpr h2)]
        obtain ⟨c, hc, e⟩ := cast_small (List.zipWith (fun a b => l.getLastD 0 * a - l.headD 0 * b) l l.reverse).tail
        rw [e, within_scale n c _ hc]
        congr 1
        unfold stepR
        rw [headD_map, lastD_map]
        have er : (cast l).reverse = cast l.reverse := by unfold cast; rw [List.map_reverse]
        rw [er, ← zip_cast]
        unfold cast
        rw [List.map_tail]
      · rw [if_neg h2, if_neg (fun z => h2 ((sq_lt_iff _ _).mp z))]

/-! ### rows over their least common bottom -/
def lcms (row : List Rat) : Nat := row.foldl (fun b r => Nat.lcm b r.den) 1
def wholes (row : List Rat) : List Int := row.map fun r => r.num * (((lcms row / r.den : Nat)) : Int)
theorem lcm_fold_dvd : ∀ (l : List Rat) (b : Nat), (b ∣ l.foldl (fun b r => Nat.lcm b r.den) b) ∧ ∀ r ∈ l, r.den ∣ l.foldl (fun b r => Nat.lcm b r.den) b
  | [], b => ⟨Nat.dvd_refl b, by simp⟩
  | a :: l, b => by
    obtain ⟨h1, h2⟩ := lcm_fold_dvd l (Nat.lcm b a.den)
    refine ⟨Nat.dvd_trans (Nat.dvd_lcm_left _ _) h1, fun x hx => ?_⟩
    rcases List.mem_cons.mp hx with rfl | hx
    · exact Nat.dvd_trans (Nat.dvd_lcm_right _ _) h1
    · exact h2 x hx
theorem lcm_fold_least : ∀ (l : List Rat) (b E : Nat), b ∣ E → (∀ r ∈ l, r.den ∣ E) → l.foldl (fun b r => Nat.lcm b r.den) b ∣ E
  | [], _, _, h, _ => h
  | a :: l, b, E, h, hl => lcm_fold_least l (Nat.lcm b a.den) E (Nat.lcm_dvd h (hl a List.mem_cons_self)) fun r hr => hl r (List.mem_cons_of_mem _ hr)
theorem lcms_pos (row : List Rat) : 0 < lcms row := by
  have aux : ∀ (l : List Rat) (b : Nat), 0 < b → 0 < l.foldl (fun b r => Nat.lcm b r.den) b := by
    intro l
    induction l with
    | nil => exact fun b h => h
    | cons a l ih => exact fun b h => ih _ (Nat.lcm_pos h a.den_pos)
  exact aux row 1 (by omega)
theorem den_dvd_lcms {row : List Rat} {r : Rat} (h : r ∈ row) : r.den ∣ lcms row := (lcm_fold_dvd row 1).2 r h
theorem num_div_den (r : Rat) : ((r.num : Int) : Rat) = r * ((r.den : Int) : Rat) := by
  have h : ((r.den : Int) : Rat) ≠ 0 := by
    intro e
    have := Rat.intCast_eq_zero_iff.mp e
    have := r.den_pos
    omega
  have e : ((r.num : Int) : Rat) / ((r.den : Int) : Rat) = r := by
    rw [← Rat.divInt_eq_div, Rat.num_divInt_den]
  have e2 := Rat.div_mul_cancel (a := ((r.num : Int) : Rat)) h
  rw [e] at e2
  exact e2.symm
theorem whole_cast {r : Rat} {L : Nat} (h : r.den ∣ L) : ((r.num * ((L / r.den : Nat) : Int) : Int) : Rat) = ((L : Int) : Rat) * r := by
  obtain ⟨k, rfl⟩ := h
  rw [Nat.mul_div_cancel_left _ r.den_pos, Rat.intCast_mul, num_div_den r, Int.natCast_mul, Rat.intCast_mul]; grind
theorem cast_wholes (row : List Rat) : cast (wholes row) = row.map fun r => ((lcms row : Int) : Rat) * r := by
  unfold wholes cast
  rw [List.map_map]
  exact List.map_congr_left fun r hr => whole_cast (den_dvd_lcms hr)
theorem lcms_ne (row : List Rat) : ((lcms row : Int) : Rat) ≠ 0 := by
  intro e
  have := Rat.intCast_eq_zero_iff.mp e
  have := lcms_pos row
  omega
theorem aw_wholes (n : Nat) (row : List Rat) : aw n (wholes row) = within n row := by
  rw [aw_within, cast_wholes, within_scale _ _ _ (lcms_ne row)]

/-- whether a relation settles, as the program finds it -/
def settle (row : List Rat) : Bool :=
  if sumR row ≠ 0 then aw (row.length - 1) (wholes row) else decide (sumR (ends row.tail) ≠ 0) && aw ((ends row.tail).length - 1) (wholes (ends row.tail))

inductive Kd where
  | inn | one | rim | out
  deriving DecidableEq
structure Fac where
  nums : List Rat
  kd : Kd
  deriving DecidableEq
/-- a told factor -/
def Fac.Ok (f : Fac) : Prop := match f.kd with
  | .inn => In f.nums ∧ sumR f.nums ≠ 0
  | .one => f.nums = [-1, 1]
  | .rim => Out f.nums ∧ sumR f.nums ≠ 0
  | .out => Out f.nums ∧ sumR f.nums ≠ 0
def due (fs : List Fac) : Bool := !(fs.map (·.kd)).contains .rim && (!(fs.map (·.kd)).contains .out && decide ((fs.map (·.kd)).count .one < 2))

theorem Fac.Ok.facts {f : Fac} (h : f.Ok) : f.nums ≠ [] ∧ f.nums.getLastD 0 = 1 := by
  unfold Fac.Ok at h
  split at h
  · exact h.1.facts
  · rw [h]; exact ⟨by simp, rfl⟩
  · exact h.1.facts
  · exact h.1.facts
theorem Fac.Ok.other {f : Fac} (h : f.Ok) (hk : f.kd ≠ .one) : (In f.nums ∨ Out f.nums) ∧ sumR f.nums ≠ 0 := by
  unfold Fac.Ok at h
  split at h
  · exact ⟨.inl h.1, h.2⟩
  · rename_i e; exact absurd e hk
  · exact ⟨.inr h.1, h.2⟩
  · exact ⟨.inr h.1, h.2⟩
theorem Fac.Ok.outs {f : Fac} (h : f.Ok) (hk : f.kd = .rim ∨ f.kd = .out) : Out f.nums := by
  unfold Fac.Ok at h
  split at h
  · rename_i e; rcases hk with q | q <;> rw [q] at e <;> cases e
  · rename_i e; rcases hk with q | q <;> rw [q] at e <;> cases e
  · exact h.1
  · exact h.1
/-- no root 1 told -/
theorem within_due (fs : List Fac) (h : ∀ f ∈ fs, f.Ok) (h1 : ∀ f ∈ fs, f.kd ≠ .one) :
    within ((prod (fs.map (·.nums))).length - 1) (prod (fs.map (·.nums))) = (!(fs.map (·.kd)).contains .rim && !(fs.map (·.kd)).contains .out) := by
  by_cases hb : ∃ f ∈ fs, f.kd = .rim ∨ f.kd = .out
  · obtain ⟨f, hm, hk⟩ := hb
    rw [within_out (fs.map (·.nums)) (fun g hg => by
      obtain ⟨x, hx, rfl⟩ := List.mem_map.mp hg
      exact ((h x hx).other (h1 x hx)).1) f.nums (List.mem_map.mpr ⟨f, hm, rfl⟩) ((h f hm).outs hk)]
    rcases hk with q | q
    · have : (fs.map (·.kd)).contains .rim = true := List.contains_iff_mem.mpr (List.mem_map.mpr ⟨f, hm, q⟩)
      rw [this]; rfl
    · have : (fs.map (·.kd)).contains .out = true := List.contains_iff_mem.mpr (List.mem_map.mpr ⟨f, hm, q⟩)
      rw [this]; simp
  · have hin : ∀ f ∈ fs, f.kd = .inn := fun f hf => by
      have a := h1 f hf
      have b : ¬ (f.kd = .rim ∨ f.kd = .out) := fun q => hb ⟨f, hf, q⟩
      cases e : f.kd with
      | inn => rfl
      | one => exact absurd e a
      | rim => exact absurd (.inl e) b
      | out => exact absurd (.inr e) b
    rw [within_in (fs.map (·.nums)) fun g hg => by
      obtain ⟨x, hx, rfl⟩ := List.mem_map.mp hg
      have := h x hx
      unfold Fac.Ok at this
      rw [hin x hx] at this
      exact this.1]
    have n1 : (fs.map (·.kd)).contains .rim = false := by
      rw [List.contains_eq_mem]
      refine decide_eq_false fun hm => ?_
      obtain ⟨x, hx, e⟩ := List.mem_map.mp hm
      rw [hin x hx] at e; cases e
    have n2 : (fs.map (·.kd)).contains .out = false := by
      rw [List.contains_eq_mem]
      refine decide_eq_false fun hm => ?_
      obtain ⟨x, hx, e⟩ := List.mem_map.mp hm
      rw [hin x hx] at e; cases e
    rw [n1, n2]; rfl
theorem sum_erase_of {fs : List Fac} (h : ∀ f ∈ fs, f.Ok) {f : Fac} (hf : f ∈ fs) (hk : f.kd = .one) : prod (fs.map (·.nums)) = conv [-1, 1] (prod ((fs.erase f).map (·.nums))) := by
  induction fs with
  | nil => simp at hf
  | cons g fs ih =>
    have hr := fun x hx => h x (List.mem_cons_of_mem g hx)
    have hg := h g List.mem_cons_self
    have fn : f.nums = [-1, 1] := by
      have := h f hf
      unfold Fac.Ok at this
      rw [hk] at this
      exact this
    by_cases e : g = f
    · subst e
      rw [List.erase_cons_head]
      show conv g.nums (prod (fs.map (·.nums))) = _
      rw [fn]
    · have hm : f ∈ fs := by
        rcases List.mem_cons.mp hf with q | q
        · exact absurd q.symm e
        · exact q
      rw [List.erase_cons_tail (by simpa using e)]
      show conv g.nums (prod (fs.map (·.nums))) = conv [-1, 1] (conv g.nums (prod ((fs.erase f).map (·.nums))))
      have hne := prod_ne ((fs.erase f).map (·.nums)) fun x hx => by
        obtain ⟨y, hy, rfl⟩ := List.mem_map.mp hx
        exact (hr y (List.mem_of_mem_erase hy)).facts.1
      rw [ih hr hm, ← conv_assoc g.nums _ _ hg.facts.1 (by simp) hne, conv_comm g.nums _ hg.facts.1 (by simp), conv_assoc _ g.nums _ (by simp) hg.facts.1 hne]
/-- MAIN: a relation put together from told factors settles just as they say -/
theorem settle_due (fs : List Fac) (h : ∀ f ∈ fs, f.Ok) : settle (prod (fs.map (·.nums))) = due fs := by
  have nums_ne : ∀ (gs : List Fac), (∀ f ∈ gs, f.Ok) → ∀ x ∈ gs.map (·.nums), x ≠ [] := fun gs hg x hx => by
    obtain ⟨y, hy, rfl⟩ := List.mem_map.mp hx
    exact (hg y hy).facts.1
  have sums : ∀ (gs : List Fac), (∀ f ∈ gs, f.Ok) → (∀ f ∈ gs, f.kd ≠ .one) → sumR (prod (gs.map (·.nums))) ≠ 0 := fun gs hg h1 => sum_prod_ne _ fun x hx => by
    obtain ⟨y, hy, rfl⟩ := List.mem_map.mp hx
    exact ⟨(hg y hy).facts.1, ((hg y hy).other (h1 y hy)).2⟩
  have c0 : ∀ (gs : List Fac), (gs.map (·.kd)).count .one = 0 → ∀ f ∈ gs, f.kd ≠ .one := fun gs hc f hf e =>
    List.count_eq_zero.mp hc (List.mem_map.mpr ⟨f, hf, e⟩)
  by_cases hc : (fs.map (·.kd)).count .one = 0
  · have h1 := c0 fs hc
    unfold settle due
    rw [if_pos (sums fs h h1), aw_wholes, within_due fs h h1, hc]
    simp
  · obtain ⟨f, hf, hk⟩ : ∃ f ∈ fs, f.kd = .one := by
      have : Kd.one ∈ fs.map (·.kd) := List.count_pos_iff.mp (by omega)
      obtain ⟨f, hf, e⟩ := List.mem_map.mp this
      exact ⟨f, hf, e⟩
    have hgs : ∀ g ∈ fs.erase f, g.Ok := fun g hg => h g (List.mem_of_mem_erase hg)
    have hne := prod_ne _ (nums_ne _ hgs)
    have hP := sum_erase_of h hf hk
    have hS : sumR (prod (fs.map (·.nums))) = 0 := by
      rw [hP, sum_conv _ _ hne]
      simp only [sumR]; grind
    have hcount : ∀ k : Kd, (fs.map (·.kd)).count k = ((fs.erase f).map (·.kd)).count k + (if k = .one then 1 else 0) := fun k => by
      have hp : (fs.map (·.kd)).Perm ((f :: fs.erase f).map (·.kd)) := (List.perm_cons_erase hf).map _
      rw [hp.count_eq, List.map_cons, List.count_cons, hk]
      by_cases e : k = .one
      · subst e; simp
      · have e' : ¬ Kd.one = k := fun q => e q.symm
        simp [e, e']
    have hcont : ∀ k : Kd, k ≠ .one → (fs.map (·.kd)).contains k = ((fs.erase f).map (·.kd)).contains k := fun k hk1 => by
      have e := hcount k
      rw [if_neg hk1] at e
      have p1 := List.count_pos_iff (l := fs.map (·.kd)) (a := k)
      have p2 := List.count_pos_iff (l := (fs.erase f).map (·.kd)) (a := k)
      rw [List.contains_eq_mem, List.contains_eq_mem]
      refine decide_eq_decide.mpr ⟨fun q => p2.mp (by have := p1.mpr q; omega), fun q => p1.mp (by have := p2.mpr q; omega)⟩
    unfold settle due
    rw [if_neg (by rw [hS]; simp), hcont .rim (by decide), hcont .out (by decide)]
    have he : ends (prod (fs.map (·.nums))).tail = prod ((fs.erase f).map (·.nums)) := by rw [hP, ends_one _ hne]
    rw [he]
    have hc1 := hcount .one
    rw [if_pos rfl] at hc1
    by_cases hz : ((fs.erase f).map (·.kd)).count .one = 0
    · have h1 := c0 _ hz
      rw [decide_eq_true (sums _ hgs h1), aw_wholes, within_due _ hgs h1, hc1, hz, Bool.true_and]
      simp
    · obtain ⟨g, hg, hgk⟩ : ∃ g ∈ fs.erase f, g.kd = .one := by
        have : Kd.one ∈ (fs.erase f).map (·.kd) := List.count_pos_iff.mp (by omega)
        obtain ⟨g, hg, e⟩ := List.mem_map.mp this
        exact ⟨g, hg, e⟩
      have hne2 := prod_ne (((fs.erase f).erase g).map (·.nums)) fun x hx => by
        obtain ⟨y, hy, rfl⟩ := List.mem_map.mp hx
        exact (hgs y (List.mem_of_mem_erase hy)).facts.1
      have hS2 : sumR (prod ((fs.erase f).map (·.nums))) = 0 := by
        rw [sum_erase_of hgs hg hgk, sum_conv _ _ hne2]
        simp only [sumR]; grind
      rw [hS2, decide_eq_false (by simp), Bool.false_and, decide_eq_false (by omega), Bool.and_false, Bool.and_false]
end SC
end
section
set_option Elab.async false
set_option linter.all false
set_option maxRecDepth 100000
set_option maxHeartbeats 2000000
/-! What expressions and blocks come to, told by data alone: env holds, for each slot, data, or a thing of this frame's own. -/
namespace Pu
open PySem PySem.Spec L2

/-! ### heaps -/
section
variable {K : PySem.W.Frag} {H H0 H1 H' H0' : Hp} {v : V} {d : PyData}
theorem sameT (e : Same H H') {a : Addr} {xs : List V} (h : SqT K H a xs) : SqT K H' a xs := by
  rcases h with (h | ⟨o, h⟩) | h
  · exact .inl (.inl (e _ _ h))
  · exact .inl (.inr ⟨o, e _ _ h⟩)
  · exact .inr h
end
mutual
/-- a value that holds data: lists stand tracked by themselves -/
inductive Dq (K : PySem.W.Frag) (H : Hp) : V → PyData → Prop
  | non : Dq K H .non .none
  | bl (b : Bool) : Dq K H (.bl b) (.bool b)
  | int (i : Int) : Dq K H (.int i) (.int i)
  | str (x : Str) : Dq K H (.str x) (.str x)
  | lst {a : Addr} {xs : List V} {ds : List PyData} : H a = some (.lst xs) → DqAll K H xs ds → Dq K H (.ref a) (.list ds)
  | tup {a : Addr} {xs : List V} {ds : List PyData} : SqT K H a xs → DqAll K H xs ds → Dq K H (.ref a) (.tuple ds)
inductive DqAll (K : PySem.W.Frag) (H : Hp) : List V → List PyData → Prop
  | nil : DqAll K H [] []
  | cons {v : V} {vs : List V} {d : PyData} {ds : List PyData} : Dq K H v d → DqAll K H vs ds → DqAll K H (v :: vs) (d :: ds)
end
section
variable {K : PySem.W.Frag} {H H0 H1 H' H0' : Hp} {v : V} {d : PyData}
mutual
theorem dq_dp : ∀ (d : PyData) (v : V), Dq K H v d → Dp K H v d
  | .none, _, h => by cases h; exact .non
  | .bool b, _, h => by cases h; exact .bl b
  | .int i, _, h => by cases h; exact .int i
  | .str x, _, h => by cases h; exact .str x
  | .list ds, _, h => by cases h with | lst hs ha => exact .lst (SqL.of hs) (dqAll_dp ds _ ha)
  | .tuple ds, _, h => by cases h with | tup hs ha => exact .tup hs (dqAll_dp ds _ ha)
  | .dict _, _, h => by cases h
theorem dqAll_dp : ∀ (ds : List PyData) (vs : List V), DqAll K H vs ds → DpAll K H vs ds
  | [], _, h => by cases h; exact .nil
  | d :: ds, _, h => by cases h with | cons h1 h2 => exact .cons (dq_dp d _ h1) (dqAll_dp ds _ h2)
end
mutual
theorem dq_mono (e : Same H H') : ∀ (d : PyData) (v : V), Dq K H v d → Dq K H' v d
  | .none, _, h => by cases h; exact .non
  | .bool b, _, h => by cases h; exact .bl b
  | .int i, _, h => by cases h; exact .int i
  | .str x, _, h => by cases h; exact .str x
  | .list ds, _, h => by cases h with | lst hs ha => exact .lst (e _ _ hs) (dqAll_mono e ds _ ha)
  | .tuple ds, _, h => by cases h with | tup hs ha => exact .tup (sameT e hs) (dqAll_mono e ds _ ha)
  | .dict _, _, h => by cases h
theorem dqAll_mono (e : Same H H') : ∀ (ds : List PyData) (vs : List V), DqAll K H vs ds → DqAll K H' vs ds
  | [], _, h => by cases h; exact .nil
  | d :: ds, _, h => by cases h with | cons h1 h2 => exact .cons (dq_mono e d _ h1) (dqAll_mono e ds _ h2)
end
theorem DqM (h : Dq K H v d) (e : Same H H') : Dq K H' v d := dq_mono e d v h
theorem DqAllM {vs : List V} {ds : List PyData} (h : DqAll K H vs ds) (e : Same H H') : DqAll K H' vs ds := dqAll_mono e ds vs h
theorem da_len : ∀ {vs : List V} {ds : List PyData}, DqAll K H vs ds → vs.length = ds.length
  | _, _, .nil => rfl
  | _, _, .cons _ h => by simp only [List.length_cons, da_len h]
theorem da_at : ∀ {vs : List V} {ds : List PyData} {i : Nat} {d : PyData}, DqAll K H vs ds → ds[i]? = some d → ∃ v, vs[i]? = some v ∧ Dq K H v d
  | _, _, _, _, .nil, e => by simp at e
  | _, _, 0, _, .cons h _, e => by simp at e; subst e; exact ⟨_, rfl, h⟩
  | _, _, i + 1, d, .cons _ h, e => by
    obtain ⟨v, h1, h2⟩ := da_at (i := i) h (by simpa using e)
    exact ⟨v, by simpa using h1, h2⟩
theorem da_at' : ∀ {vs : List V} {ds : List PyData} {i : Nat} {v : V}, DqAll K H vs ds → vs[i]? = some v → ∃ d, ds[i]? = some d ∧ Dq K H v d
  | _, _, _, _, .nil, e => by simp at e
  | _, _, 0, _, .cons h _, e => by simp at e; subst e; exact ⟨_, rfl, h⟩
  | _, _, i + 1, v, .cons _ h, e => by
    obtain ⟨d, h1, h2⟩ := da_at' (i := i) h (by simpa using e)
    exact ⟨d, by simpa using h1, h2⟩
theorem da_app : ∀ {vs ws : List V} {ds es : List PyData}, DqAll K H vs ds → DqAll K H ws es → DqAll K H (vs ++ ws) (ds ++ es)
  | _, _, _, _, .nil, h => h
  | _, _, _, _, .cons h1 h2, h => .cons h1 (da_app h2 h)
theorem da_take : ∀ {vs : List V} {ds : List PyData} (n : Nat), DqAll K H vs ds → DqAll K H (vs.take n) (ds.take n)
  | _, _, 0, _ => .nil
  | _, _, _ + 1, .nil => .nil
  | _, _, n + 1, .cons h t => .cons h (da_take n t)
theorem da_drop : ∀ {vs : List V} {ds : List PyData} (n : Nat), DqAll K H vs ds → DqAll K H (vs.drop n) (ds.drop n)
  | _, _, 0, h => h
  | _, _, _ + 1, .nil => .nil
  | _, _, n + 1, .cons _ t => da_drop n t
theorem da_rev : ∀ {vs : List V} {ds : List PyData}, DqAll K H vs ds → DqAll K H vs.reverse ds.reverse
  | _, _, .nil => .nil
  | _, _, .cons h t => by
    rw [List.reverse_cons, List.reverse_cons]
    exact da_app (da_rev t) (.cons h .nil)
theorem da_set (hv : Dq K H v d) : ∀ {vs : List V} {ds : List PyData} (i : Nat), DqAll K H vs ds → DqAll K H (vs.set i v) (ds.set i d)
  | _, _, _, .nil => .nil
  | _, _, 0, .cons _ t => .cons hv t
  | _, _, i + 1, .cons h t => .cons h (da_set hv i t)
theorem da_ints : ∀ {ns : List Int} {vs : List V}, DqAll K H vs (ns.map PyData.int) → vs = ns.map V.int
  | [], _, h => by cases h; rfl
  | n :: ns, _, h => by
    cases h with
    | cons h1 h2 =>
      cases h1
      rw [List.map_cons, da_ints h2]
theorem da_ofInts : ∀ (ns : List Int), DqAll K H (ns.map V.int) (ns.map PyData.int)
  | [] => .nil
  | n :: ns => .cons (.int n) (da_ofInts ns)

/-- what is shared has grown, all else stands -/
structure New (H0 H H0' H' : Hp) : Prop where
  ex : Same H0 H0'
  sub : Same H0' H'
  keep : Same H H'
  apart : ∀ a o, H a = some o → H0 a = none → H0' a = none
theorem New.refl (e : Same H0 H) : New H0 H H0 H := ⟨Same.refl _, e, Same.refl _, fun _ _ _ n => n⟩
theorem New.trans {H2 H02 : Hp} (a : New H0 H H0' H') (b : New H0' H' H02 H2) : New H0 H H02 H2 :=
  ⟨a.ex.trans b.ex, b.sub, a.keep.trans b.keep, fun x o h n => b.apart x o (a.keep x o h) (a.apart x o h n)⟩
theorem same_upd {p : Addr} (h : H p = none) (o : HO) : Same H (upd H p o) := fun a u e => by
  rw [upd_ne (ne_of_none e h)]
  exact e
theorem same_upd2 (e : Same H0 H) (p : Addr) (o : HO) : Same (upd H0 p o) (upd H p o) := fun a u h => by
  by_cases q : a = p
  · subst q; rw [upd_same] at h ⊢; exact h
  · rw [upd_ne q] at h ⊢; exact e _ _ h
theorem same_none (e : Same H0 H) {p : Addr} (h : H p = none) : H0 p = none := e.free h
/-- a new shared object -/
theorem New.laid (e : Same H0 H) {p : Addr} (h : H p = none) (o : HO) : New H0 H (upd H0 p o) (upd H p o) :=
  ⟨same_upd (same_none e h) o, same_upd2 e p o, same_upd h o, fun a u q n => by rw [upd_ne (ne_of_none q h)]; exact n⟩
/-- a new object that isn't shared -/
theorem New.other (e : Same H0 H) {p : Addr} (h : H p = none) (o : HO) : New H0 H H0 (upd H p o) :=
  ⟨Same.refl _, e.trans (same_upd h o), same_upd h o, fun _ _ _ n => n⟩
end

/-! ### what a slot holds -/
/-- a thing of a frame's own: P v H0 H F: it is the value v, its objects stand at F in H, what it holds is shared in H0 -/
structure Own where
  P : V → Hp → Hp → List Addr → Prop
  st : ∀ {v : V} {H0 H H0' H' : Hp} {F : List Addr}, P v H0 H F → Same H0 H0' → (∀ a ∈ F, ∀ o, H a = some o → H' a = some o) → P v H0' H' F
inductive Sv where
  | non
  | dat (d : PyData)
  | own (Φ : Own)
def SvOk (K : PySem.W.Frag) (H0 H : Hp) (x : Option (Option V)) (F : List Addr) : Sv → Prop
  | .non => True
  | .dat d => ∃ v, x = some (some v) ∧ Dq K H0 v d
  | .own Φ => ∃ v, x = some (some v) ∧ Φ.P v H0 H F
abbrev Fp := Nat → List Addr
structure Sl (K : PySem.W.Frag) (env : List Sv) (σ : St) (H0 H : Hp) (F : Fp) : Prop where
  ex : Same H0 H
  len : σ.length = env.length
  ok : ∀ i sv, env[i]? = some sv → SvOk K H0 H σ[i]? (F i) sv
  out : ∀ i a, a ∈ F i → H0 a = none ∧ ∃ o, H a = some o
  dis : ∀ i j a, a ∈ F i → a ∈ F j → i = j
  nil : ∀ i, (∀ Φ, env[i]? ≠ some (.own Φ)) → F i = []
structure Go (H0 H : Hp) (F : Fp) (H0' H' : Hp) (F' : Fp) : Prop where
  ex : Same H0 H0'
  keep : ∀ a o, H a = some o → (∀ i, a ∉ F i) → H' a = some o
  apart : ∀ a o, H a = some o → H0 a = none → (∀ i, a ∉ F i) → H0' a = none ∧ ∀ i, a ∉ F' i
  there : ∀ a o, H a = some o → ∃ o', H' a = some o'
section
variable {K : PySem.W.Frag} {env env' : List Sv} {σ : St} {H0 H H0' H' H02 H2 : Hp} {F F' F2 : Fp} {v : V} {d : PyData}
theorem Go.refl : Go H0 H F H0 H F := ⟨Same.refl _, fun _ _ h _ => h, fun _ _ _ n f => ⟨n, f⟩, fun _ o h => ⟨o, h⟩⟩
theorem Go.trans (g1 : Go H0 H F H0' H' F') (s : ∀ i a, a ∈ F' i → H0' a = none) (g2 : Go H0' H' F' H02 H2 F2) : Go H0 H F H02 H2 F2 := by
  have nf : ∀ a o, H a = some o → (∀ i, a ∉ F i) → ∀ i, a ∉ F' i := fun a o h f i => by
    cases q : H0 a with
    | none => exact (g1.apart a o h q f).2 i
    | some u =>
      intro m
      have := s i a m
      rw [g1.ex a u q] at this
      cases this
  refine ⟨g1.ex.trans g2.ex, fun a o h f => g2.keep a o (g1.keep a o h f) (nf a o h f), fun a o h n f => ?_, fun a o h => let ⟨o1, h1⟩ := g1.there a o h; g2.there a o1 h1⟩
  exact g2.apart a o (g1.keep a o h f) (g1.apart a o h n f).1 (g1.apart a o h n f).2
theorem New.go (n : New H0 H H0' H') : Go H0 H F H0' H' F := ⟨n.ex, fun a o h _ => n.keep a o h, fun a o h q f => ⟨n.apart a o h q, f⟩, fun a o h => ⟨o, n.keep a o h⟩⟩
theorem SvOk.new {x : Option (Option V)} {f : List Addr} {sv : Sv} (h : SvOk K H0 H x f sv) (n : New H0 H H0' H') : SvOk K H0' H' x f sv := by
  cases sv with
  | non => trivial
  | dat d => obtain ⟨v, e, q⟩ := h; exact ⟨v, e, DqM q n.ex⟩
  | own Φ => obtain ⟨v, e, q⟩ := h; exact ⟨v, e, Φ.st q n.ex fun a _ o e => n.keep a o e⟩
theorem Sl.new (S : Sl K env σ H0 H F) (n : New H0 H H0' H') : Sl K env σ H0' H' F :=
  ⟨n.sub, S.len, fun i sv e => (S.ok i sv e).new n, fun i a m => ⟨n.apart a _ (S.out i a m).2.choose_spec (S.out i a m).1, _, n.keep a _ (S.out i a m).2.choose_spec⟩, S.dis, S.nil⟩
theorem Sl.goS (S : Sl K env σ H0 H F) : ∀ i a, a ∈ F i → H0 a = none := fun i a m => (S.out i a m).1
/-- a slot gets data -/
theorem Sl.put {i : Nat} (S : Sl K env σ H0 H F) (hv : Dq K H0 v d) : Sl K (env.set i (.dat d)) (σ.set i (some v)) H0 H (fun j => if j = i then [] else F j) := by
  refine ⟨S.ex, by rw [List.length_set, List.length_set]; exact S.len, fun j sv e => ?_, fun j a m => ?_, fun j k a m m' => ?_, fun j hj => ?_⟩
  rotate_left
  rotate_left
  rotate_left
  · by_cases q : j = i
    · simp [q]
    · simp only [if_neg q]
      exact S.nil j (by rwa [List.getElem?_set_ne (Ne.symm q)] at hj)
  · by_cases q : j = i
    · subst q
      have hj : j < env.length := by
        have := (List.getElem?_eq_some_iff.mp e).1
        rwa [List.length_set] at this
      rw [List.getElem?_set_self hj] at e
      cases e
      exact ⟨v, List.getElem?_set_self (by rw [S.len]; exact hj), hv⟩
    · rw [List.getElem?_set_ne (Ne.symm q)] at e ⊢
      simp only [if_neg q]
      exact S.ok j sv e
  · by_cases q : j = i
    · simp [q] at m
    · simp only [if_neg q] at m
      exact S.out j a m
  · by_cases q : j = i
    · simp [q] at m
    · by_cases q' : k = i
      · simp [q'] at m'
      · simp only [if_neg q] at m
        simp only [if_neg q'] at m'
        exact S.dis j k a m m'
theorem go_put {i : Nat} : Go H0 H F H0 H (fun j => if j = i then [] else F j) :=
  ⟨Same.refl _, fun _ _ h _ => h, fun a _ _ n f => ⟨n, fun j m => by
    by_cases q : j = i
    · simp [q] at m
    · simp only [if_neg q] at m
      exact f j m⟩, fun _ o h => ⟨o, h⟩⟩
/-- a slot gets a thing of its own, at new objects f -/
theorem Sl.give {i : Nat} {Φ : Own} {f : List Addr} (S : Sl K env σ H0 H F) (hi : i < env.length) (hv : Φ.P v H0 H f) (hf : ∀ a ∈ f, H0 a = none ∧ (∃ o, H a = some o) ∧ ∀ j, a ∉ F j) :
    Sl K (env.set i (.own Φ)) (σ.set i (some v)) H0 H (fun j => if j = i then f else F j) := by
  refine ⟨S.ex, by rw [List.length_set, List.length_set]; exact S.len, fun j sv e => ?_, fun j a m => ?_, fun j k a m m' => ?_, fun j hj => ?_⟩
  rotate_left
  rotate_left
  rotate_left
  · by_cases q : j = i
    · subst q
      exact absurd (List.getElem?_set_self hi) (hj Φ)
    · simp only [if_neg q]
      exact S.nil j (by rwa [List.getElem?_set_ne (Ne.symm q)] at hj)
  · by_cases q : j = i
    · subst q
      have hj : j < env.length := by
        have := (List.getElem?_eq_some_iff.mp e).1
        rwa [List.length_set] at this
      rw [List.getElem?_set_self hj] at e
      cases e
      exact ⟨v, List.getElem?_set_self (by rw [S.len]; exact hj), by simpa using hv⟩
    · rw [List.getElem?_set_ne (Ne.symm q)] at e ⊢
      simp only [if_neg q]
      exact S.ok j sv e
  · by_cases q : j = i
    · simp only [if_pos q] at m
      exact ⟨(hf a m).1, (hf a m).2.1⟩
    · simp only [if_neg q] at m
      exact S.out j a m
  · by_cases q : j = i
    · by_cases q' : k = i
      · rw [q, q']
      · simp only [if_pos q] at m
        simp only [if_neg q'] at m'
        exact absurd m' ((hf a m).2.2 k)
    · by_cases q' : k = i
      · simp only [if_neg q] at m
        simp only [if_pos q'] at m'
        exact absurd m ((hf a m').2.2 j)
      · simp only [if_neg q] at m
        simp only [if_neg q'] at m'
        exact S.dis j k a m m'
/-- .. where it held nothing of its own -/
theorem Sl.putN {i : Nat} (S : Sl K env σ H0 H F) (hv : Dq K H0 v d) (hn : ∀ Φ, env[i]? ≠ some (.own Φ)) : Sl K (env.set i (.dat d)) (σ.set i (some v)) H0 H F := by
  have h := S.put (i := i) hv
  have e : (fun j => if j = i then [] else F j) = F := by
    funext j
    by_cases q : j = i
    · simp [q, S.nil i hn]
    · simp [q]
  rwa [e] at h
theorem Sl.dat {i : Nat} (S : Sl K env σ H0 H F) (e : env[i]? = some (.dat d)) : ∃ v, σ[i]? = some (some v) ∧ Dq K H0 v d := S.ok i _ e
end

/-! ### what is told of an expression -/
/-- behind an expression: its value is data d, shared; pure: nothing of the frame's own was touched -/
def VKp (K : PySem.W.Frag) (env' : List Sv) (σ : St) (H0 H : Hp) (F : Fp) (d : PyData) (pu : Bool) : VK := fun v H' =>
  ∃ H0' F', Sl K env' σ H0' H' F' ∧ Go H0 H F H0' H' F' ∧ (pu = true → F' = F ∧ New H0 H H0' H') ∧ Dq K H0' v d
structure EV (X : Cx) (env : List Sv) (e : Expr) (d : PyData) (env' : List Sv) (pu : Bool) : Prop where
  run : ∀ (pins : List (Addr × Obj)) (s : Shared) (σ : St) (H0 H : Hp) (F : Fp), Inv X pins σ H s → Sl X.K env σ H0 H F →
    wpAny (model X.prog X.w) X.A (eval e X.env) (EP X pins σ (VKp X.K env' σ H0 H F d pu)) X.xe s
/-- a new list, not shared -/
def VKl (K : PySem.W.Frag) (env' : List Sv) (σ : St) (H0 H : Hp) (F : Fp) (ds : List PyData) (pu : Bool) : VK := fun v H' =>
  ∃ H0' F' p xs, v = .ref p ∧ Sl K env' σ H0' H' F' ∧ Go H0 H F H0' H' F' ∧ (pu = true → F' = F ∧ New H0 H H0' H') ∧ H p = none ∧ H0' p = none ∧ H' p = some (.lst xs) ∧ (∀ j, p ∉ F' j) ∧ DqAll K H0' xs ds
structure EL (X : Cx) (env : List Sv) (e : Expr) (ds : List PyData) (env' : List Sv) (pu : Bool) : Prop where
  run : ∀ (pins : List (Addr × Obj)) (s : Shared) (σ : St) (H0 H : Hp) (F : Fp), Inv X pins σ H s → Sl X.K env σ H0 H F →
    wpAny (model X.prog X.w) X.A (eval e X.env) (EP X pins σ (VKl X.K env' σ H0 H F ds pu)) X.xe s
def BKp (K : PySem.W.Frag) (env' : List Sv) (σ : St) (H0 H : Hp) (F : Fp) (b : Bool) (pu : Bool) : Bool → Hp → Prop := fun c H' =>
  c = b ∧ ∃ H0' F', Sl K env' σ H0' H' F' ∧ Go H0 H F H0' H' F' ∧ (pu = true → F' = F ∧ New H0 H H0' H')
structure ET (X : Cx) (env : List Sv) (e : Expr) (b : Bool) (env' : List Sv) (pu : Bool) : Prop where
  run : ∀ (pins : List (Addr × Obj)) (s : Shared) (σ : St) (H0 H : Hp) (F : Fp), Inv X pins σ H s → Sl X.K env σ H0 H F →
    wpAny (model X.prog X.w) X.A (isTrue e X.env (eval e X.env)) (TP X pins σ (BKp X.K env' σ H0 H F b pu)) X.xe s
structure EW (X : Cx) (env : List Sv) (e : Expr) (b : Bool) (env' : List Sv) (pu : Bool) : Prop where
  run : ∀ (whole : Sem Value) (pins : List (Addr × Obj)) (s : Shared) (σ : St) (H0 H : Hp) (F : Fp), Inv X pins σ H s → Sl X.K env σ H0 H F →
    wpAny (model X.prog X.w) X.A (isTrue e X.env whole) (TP X pins σ (BKp X.K env' σ H0 H F b pu)) X.xe s
def AKp (K : PySem.W.Frag) (env' : List Sv) (σ : St) (H0 H : Hp) (F : Fp) (ds : List PyData) (pu : Bool) : List V → Hp → Prop := fun vs H' =>
  ∃ H0' F', Sl K env' σ H0' H' F' ∧ Go H0 H F H0' H' F' ∧ (pu = true → F' = F ∧ New H0 H H0' H') ∧ DqAll K H0' vs ds
structure EA (X : Cx) (env : List Sv) (es : List Expr) (ds : List PyData) (env' : List Sv) (pu : Bool) : Prop where
  run : ∀ (pos : Pos) (pins : List (Addr × Obj)) (s : Shared) (σ : St) (H0 H : Hp) (F : Fp), Inv X pins σ H s → Sl X.K env σ H0 H F →
    wpAny (model X.prog X.w) X.A (spliced (backTo pos (starEach es X.env))) (AP X pins σ (AKp X.K env' σ H0 H F ds pu)) X.xe s

/-! ### readings by these -/
def tEV (X : Cx) (e : Expr) : TE := fun σ H Q => ∃ env H0 F d env' pu, Sl X.K env σ H0 H F ∧ EV X env e d env' pu ∧ ∀ v H', VKp X.K env' σ H0 H F d pu v H' → Q v H'
def tEL (X : Cx) (e : Expr) : TE := fun σ H Q => ∃ env H0 F ds env' pu, Sl X.K env σ H0 H F ∧ EL X env e ds env' pu ∧ ∀ v H', VKl X.K env' σ H0 H F ds pu v H' → Q v H'
def tET (X : Cx) (e : Expr) : TT := fun σ H Q => ∃ env H0 F b env' pu, Sl X.K env σ H0 H F ∧ ET X env e b env' pu ∧ ∀ c H', BKp X.K env' σ H0 H F b pu c H' → Q c H'
def tEW (X : Cx) (e : Expr) : TT := fun σ H Q => ∃ env H0 F b env' pu, Sl X.K env σ H0 H F ∧ EW X env e b env' pu ∧ ∀ c H', BKp X.K env' σ H0 H F b pu c H' → Q c H'
def tEA (X : Cx) (es : List Expr) : TA := fun σ H Q => ∃ env H0 F ds env' pu, Sl X.K env σ H0 H F ∧ EA X env es ds env' pu ∧ ∀ vs H', AKp X.K env' σ H0 H F ds pu vs H' → Q vs H'
section
variable {X : Cx} {env env' : List Sv} {e : Expr} {es : List Expr} {d : PyData} {ds : List PyData} {pu b : Bool}
theorem pe_ev : PE X e (tEV X e) := ⟨fun pins s σ H Q I ⟨env, H0, F, d, env', pu, S, h, q⟩ => thn (h.run pins s σ H0 H F I S) fun u s' ⟨v, H', I', r, z⟩ => ⟨v, H', I', r, q v H' z⟩⟩
theorem pe_el : PE X e (tEL X e) := ⟨fun pins s σ H Q I ⟨env, H0, F, d, env', pu, S, h, q⟩ => thn (h.run pins s σ H0 H F I S) fun u s' ⟨v, H', I', r, z⟩ => ⟨v, H', I', r, q v H' z⟩⟩
theorem pt_et : PT X e (tET X e) := ⟨fun pins s σ H Q I ⟨env, H0, F, d, env', pu, S, h, q⟩ => thn (h.run pins s σ H0 H F I S) fun c s' ⟨H', I', z⟩ => ⟨H', I', q c H' z⟩⟩
theorem pw_ew : PW X e (tEW X e) := ⟨fun wh pins s σ H Q I ⟨env, H0, F, d, env', pu, S, h, q⟩ => thn (h.run wh pins s σ H0 H F I S) fun c s' ⟨H', I', z⟩ => ⟨H', I', q c H' z⟩⟩
theorem pa_ea : PA X es (tEA X es) := ⟨fun pos pins s σ H Q I ⟨env, H0, F, d, env', pu, S, h, q⟩ => thn (h.run pos pins s σ H0 H F I S) fun u s' ⟨v, H', I', r, z⟩ => ⟨v, H', I', r, q v H' z⟩⟩
theorem EV.of {t : TE} (h : PE X e t) (hr : ∀ σ H0 H F, Sl X.K env σ H0 H F → t σ H (VKp X.K env' σ H0 H F d pu)) : EV X env e d env' pu := ⟨fun pins s σ H0 H F I S => h.run pins s σ H _ I (hr σ H0 H F S)⟩
theorem EL.of {t : TE} (h : PE X e t) (hr : ∀ σ H0 H F, Sl X.K env σ H0 H F → t σ H (VKl X.K env' σ H0 H F ds pu)) : EL X env e ds env' pu := ⟨fun pins s σ H0 H F I S => h.run pins s σ H _ I (hr σ H0 H F S)⟩
theorem ET.of {t : TT} (h : PT X e t) (hr : ∀ σ H0 H F, Sl X.K env σ H0 H F → t σ H (BKp X.K env' σ H0 H F b pu)) : ET X env e b env' pu := ⟨fun pins s σ H0 H F I S => h.run pins s σ H _ I (hr σ H0 H F S)⟩
theorem EW.of {t : TT} (h : PW X e t) (hr : ∀ σ H0 H F, Sl X.K env σ H0 H F → t σ H (BKp X.K env' σ H0 H F b pu)) : EW X env e b env' pu := ⟨fun wh pins s σ H0 H F I S => h.run wh pins s σ H _ I (hr σ H0 H F S)⟩
theorem EA.of {t : TA} (h : PA X es t) (hr : ∀ σ H0 H F, Sl X.K env σ H0 H F → t σ H (AKp X.K env' σ H0 H F ds pu)) : EA X env es ds env' pu := ⟨fun pos pins s σ H0 H F I S => h.run pos pins s σ H _ I (hr σ H0 H F S)⟩
end

/-- behind two steps -/
structure Bnd (K : PySem.W.Frag) (env' : List Sv) (σ : St) (H0 H : Hp) (F : Fp) (pu : Bool) (H0' H' : Hp) (F' : Fp) : Prop where
  s : Sl K env' σ H0' H' F'
  g : Go H0 H F H0' H' F'
  p : pu = true → F' = F ∧ New H0 H H0' H'
section
variable {K : PySem.W.Frag} {env env' env2 : List Sv} {σ : St} {H0 H H0' H' H02 H2 : Hp} {F F' F2 : Fp} {pu pu2 : Bool}
theorem Bnd.refl (S : Sl K env σ H0 H F) : Bnd K env σ H0 H F true H0 H F := ⟨S, Go.refl, fun _ => ⟨rfl, New.refl S.ex⟩⟩
theorem Bnd.trans (a : Bnd K env' σ H0 H F pu H0' H' F') (b : Bnd K env2 σ H0' H' F' pu2 H02 H2 F2) : Bnd K env2 σ H0 H F (pu && pu2) H02 H2 F2 := by
  refine ⟨b.s, a.g.trans a.s.goS b.g, fun e => ?_⟩
  rw [Bool.and_eq_true] at e
  obtain ⟨e1, n1⟩ := a.p e.1
  obtain ⟨e2, n2⟩ := b.p e.2
  exact ⟨e2.trans e1, n1.trans n2⟩
theorem Bnd.new (a : Bnd K env' σ H0 H F pu H0' H' F') (n : New H0' H' H02 H2) : Bnd K env' σ H0 H F pu H02 H2 F' := by
  refine ⟨a.s.new n, a.g.trans a.s.goS n.go, fun e => ?_⟩
  obtain ⟨e1, n1⟩ := a.p e
  exact ⟨e1, n1.trans n⟩
/-- nothing that stands behind is new ahead -/
theorem Bnd.fresh (b : Bnd K env' σ H0 H F pu H0' H' F') {l : Addr} (hl : H' l = none) : H l = none := by
  cases q : H l with
  | none => rfl
  | some o =>
    obtain ⟨o', e⟩ := b.g.there l o q
    rw [hl] at e
    cases e
/-- an object that came meanwhile is shared -/
theorem Bnd.share {l : Addr} {o : HO} (b : Bnd K env' σ H0 H F pu H0' H' F') (hH : H l = none) (h0 : H0' l = none) (hl : H' l = some o) (nf : ∀ j, l ∉ F' j) : Bnd K env' σ H0 H F pu (upd H0' l o) H' F' := by
  have e1 : Same H0' (upd H0' l o) := same_upd h0 o
  have nl : ∀ a u, H a = some u → a ≠ l := fun a u e z => by rw [z, hH] at e; cases e
  have sub : Same (upd H0' l o) H' := fun a u q => by
    by_cases z : a = l
    · subst z; rw [upd_same] at q; rw [hl]; exact q
    · rw [upd_ne z] at q; exact b.s.ex a u q
  refine ⟨⟨sub, b.s.len, fun i sv e => ?_, fun i a m => ?_, b.s.dis, b.s.nil⟩, ⟨b.g.ex.trans e1, b.g.keep, fun a u h n f => ?_, b.g.there⟩, fun e => ?_⟩
  · have k := b.s.ok i sv e
    cases sv with
    | non => trivial
    | dat d => obtain ⟨v, e, q⟩ := k; exact ⟨v, e, DqM q e1⟩
    | own Φ => obtain ⟨v, e, q⟩ := k; exact ⟨v, e, Φ.st q e1 fun a _ o e => e⟩
  · have z : a ≠ l := fun q => nf i (q ▸ m)
    rw [upd_ne z]
    exact b.s.out i a m
  · rw [upd_ne (nl a u h)]
    exact b.g.apart a u h n f
  · obtain ⟨e2, n⟩ := b.p e
    exact ⟨e2, n.ex.trans e1, sub, n.keep, fun a u h q => by rw [upd_ne (nl a u h)]; exact n.apart a u h q⟩
end
end Pu
end
section
set_option Elab.async false
set_option linter.all false
set_option maxRecDepth 100000
set_option maxHeartbeats 2000000
namespace Pu
open PySem PySem.Spec L2

/-! ### operations by values, told by data -/
def OpV (K : PySem.W.Frag) (r : R2) (da db d : PyData) : Prop := ∀ (x y : V) (H0 H : Hp) (Q : VK), Same H0 H → Dq K H0 x da → Dq K H0 y db → (∀ v H0' H', New H0 H H0' H' → Dq K H0' v d → Q v H') → r x y H Q
def OpL (K : PySem.W.Frag) (r : R2) (da db : PyData) (ds : List PyData) : Prop := ∀ (x y : V) (H0 H : Hp) (Q : VK), Same H0 H → Dq K H0 x da → Dq K H0 y db → (∀ p xs, H p = none → DqAll K H0 xs ds → Q (.ref p) (upd H p (.lst xs))) → r x y H Q
def UnV (K : PySem.W.Frag) (r : V → Hp → VK → Prop) (da d : PyData) : Prop := ∀ (x : V) (H0 H : Hp) (Q : VK), Same H0 H → Dq K H0 x da → (∀ v H0' H', New H0 H H0' H' → Dq K H0' v d → Q v H') → r x H Q
def CallV (K : PySem.W.Frag) (r : List V → Hp → VK → Prop) (ds : List PyData) (d : PyData) : Prop := ∀ (vs : List V) (H0 H : Hp) (Q : VK), Same H0 H → DqAll K H0 vs ds → (∀ v H0' H', New H0 H H0' H' → Dq K H0' v d → Q v H') → r vs H Q
def CallL (K : PySem.W.Frag) (r : List V → Hp → VK → Prop) (ds : List PyData) (es : List PyData) : Prop := ∀ (vs : List V) (H0 H : Hp) (Q : VK), Same H0 H → DqAll K H0 vs ds → (∀ p xs, H p = none → DqAll K H0 xs es → Q (.ref p) (upd H p (.lst xs))) → r vs H Q

section
variable {X : Cx} {env env1 env2 env' : List Sv} {a b e t : Expr} {es : List Expr} {da db d : PyData} {ds es' : List PyData} {pos : Pos} {p p1 p2 : Bool} {r : R2}

theorem VKp.mk {K : PySem.W.Frag} {env' : List Sv} {σ : St} {H0 H H0' H' : Hp} {F F' : Fp} {pu : Bool} {v : V} (b : Bnd K env' σ H0 H F pu H0' H' F') (h : Dq K H0' v d) : VKp K env' σ H0 H F d pu v H' := ⟨H0', F', b.s, b.g, b.p, h⟩
theorem VKp.bnd {K : PySem.W.Frag} {env' : List Sv} {σ : St} {H0 H H' : Hp} {F : Fp} {pu : Bool} {v : V} (h : VKp K env' σ H0 H F d pu v H') : ∃ H0' F', Bnd K env' σ H0 H F pu H0' H' F' ∧ Dq K H0' v d := by
  obtain ⟨H0', F', s, g, p, hd⟩ := h
  exact ⟨H0', F', ⟨s, g, p⟩, hd⟩
theorem AKp.bnd {K : PySem.W.Frag} {env' : List Sv} {σ : St} {H0 H H' : Hp} {F : Fp} {pu : Bool} {vs : List V} (h : AKp K env' σ H0 H F ds pu vs H') : ∃ H0' F', Bnd K env' σ H0 H F pu H0' H' F' ∧ DqAll K H0' vs ds := by
  obtain ⟨H0', F', s, g, p, hd⟩ := h
  exact ⟨H0', F', ⟨s, g, p⟩, hd⟩
theorem BKp.bnd {K : PySem.W.Frag} {env' : List Sv} {σ : St} {H0 H H' : Hp} {F : Fp} {pu b c : Bool} (h : BKp K env' σ H0 H F b pu c H') : c = b ∧ ∃ H0' F', Bnd K env' σ H0 H F pu H0' H' F' := by
  obtain ⟨e, H0', F', s, g, p⟩ := h
  exact ⟨e, H0', F', ⟨s, g, p⟩⟩
theorem BKp.mk {K : PySem.W.Frag} {env' : List Sv} {σ : St} {H0 H H0' H' : Hp} {F F' : Fp} {pu c : Bool} (b : Bnd K env' σ H0 H F pu H0' H' F') : BKp K env' σ H0 H F c pu c H' := ⟨rfl, H0', F', b.s, b.g, b.p⟩
/-- to use a part -/
theorem tEV.go {X : Cx} {e : Expr} {σ : St} {H0 H : Hp} {F : Fp} {Q : VK} (h : EV X env e d env' p) (S : Sl X.K env σ H0 H F) (q : ∀ v H0' H' F', Bnd X.K env' σ H0 H F p H0' H' F' → Dq X.K H0' v d → Q v H') : tEV X e σ H Q :=
  ⟨env, H0, F, d, env', p, S, h, fun v H' z => let ⟨H0', F', b, hd⟩ := z.bnd; q v H0' H' F' b hd⟩
theorem tET.go {X : Cx} {e : Expr} {σ : St} {H0 H : Hp} {F : Fp} {b : Bool} {Q : Bool → Hp → Prop} (h : ET X env e b env' p) (S : Sl X.K env σ H0 H F) (q : ∀ H0' H' F', Bnd X.K env' σ H0 H F p H0' H' F' → Q b H') : tET X e σ H Q :=
  ⟨env, H0, F, b, env', p, S, h, fun c H' z => by
    obtain ⟨e, H0', F', bn⟩ := z.bnd
    rw [e]
    exact q H0' H' F' bn⟩
theorem tEW.go {X : Cx} {e : Expr} {σ : St} {H0 H : Hp} {F : Fp} {b : Bool} {Q : Bool → Hp → Prop} (h : EW X env e b env' p) (S : Sl X.K env σ H0 H F) (q : ∀ H0' H' F', Bnd X.K env' σ H0 H F p H0' H' F' → Q b H') : tEW X e σ H Q :=
  ⟨env, H0, F, b, env', p, S, h, fun c H' z => by
    obtain ⟨e, H0', F', bn⟩ := z.bnd
    rw [e]
    exact q H0' H' F' bn⟩
theorem tEA.go {X : Cx} {es : List Expr} {σ : St} {H0 H : Hp} {F : Fp} {Q : List V → Hp → Prop} (h : EA X env es ds env' p) (S : Sl X.K env σ H0 H F) (q : ∀ vs H0' H' F', Bnd X.K env' σ H0 H F p H0' H' F' → DqAll X.K H0' vs ds → Q vs H') : tEA X es σ H Q :=
  ⟨env, H0, F, ds, env', p, S, h, fun vs H' z => let ⟨H0', F', b, hd⟩ := z.bnd; q vs H0' H' F' b hd⟩
theorem tEL.go {X : Cx} {e : Expr} {σ : St} {H0 H : Hp} {F : Fp} {Q : VK} (h : EL X env e ds env' p) (S : Sl X.K env σ H0 H F)
    (q : ∀ l xs H0' H' F', Bnd X.K env' σ H0 H F p H0' H' F' → H l = none → H0' l = none → H' l = some (.lst xs) → (∀ j, l ∉ F' j) → DqAll X.K H0' xs ds → Q (.ref l) H') : tEL X e σ H Q :=
  ⟨env, H0, F, ds, env', p, S, h, fun v H' z => by
    obtain ⟨H0', F', l, xs, e, s, g, pp, n1, n2, hl, nf, hd⟩ := z
    rw [e]
    exact q l xs H0' H' F' ⟨s, g, pp⟩ n1 n2 hl nf hd⟩

/-! ### names, constants -/
theorem ev_var {x : Str} {i : Nat} (hN : X.N[i]? = some x) (hv : Vis X.env.scope x) (he : env[i]? = some (.dat d)) (hd : (x == ("__debug__" : Str)) = false := by decide) (hcd : (x == ("__classdict__" : Str)) = false := by decide) : EV X env (.Name x pos) d env true :=
  .of (pe_var hN hv hd hcd) fun σ H0 H F S => let ⟨v, e, h⟩ := S.dat he; ⟨v, e, .mk (.refl S) h⟩
theorem ev_int {i : Int} {j} : EV X env (.Constant (.int i) j pos) (.int i) env true := .of pe_int fun σ H0 H F S => .mk (.refl S) (.int i)
theorem ev_bl {i : Bool} {j} : EV X env (.Constant (.bool i) j pos) (.bool i) env true := .of pe_bl fun σ H0 H F S => .mk (.refl S) (.bl i)
theorem ev_non {j} : EV X env (.Constant .none j pos) .none env true := .of pe_non fun σ H0 H F S => .mk (.refl S) .non
theorem ev_str {x : Str} {j} : EV X env (.Constant (.str x) j pos) (.str x) env true := .of pe_str fun σ H0 H F S => .mk (.refl S) (.str x)
/-- a constant of the module -/
theorem ev_glob {x : Str} {v : V} {u : Value} (hm : X.mg x = some u) (r : RelV v u) (hd : ∀ H, Dq X.K H v d) (hg : Gl X x := by rfl) (hdb : (x == ("__debug__" : Str)) = false := by decide) : EV X env (.Name x pos) d env true :=
  .of (pe_glob hg hm r hdb) fun σ H0 H F S => .mk (.refl S) (hd H0)

/-! ### operators -/
theorem ev_bin {op : Operator} (ho : OpR X (binaryOp op) r) (ha : EV X env a da env1 p1) (hb : EV X env1 b db env2 p2) (hr : OpV X.K r da db d) : EV X env (.BinOp a op b pos) d env2 (p1 && p2) :=
  .of (pe_op ho pe_ev pe_ev) fun σ H0 H F S => tEV.go ha S fun x H01 H1 F1 b1 d1 => tEV.go hb b1.s fun y H02 H2 F2 b2 d2 =>
    hr x y H02 H2 _ b2.s.ex (DqM d1 b2.g.ex) d2 fun v H0' H' n dv => .mk ((b1.trans b2).new n) dv
theorem ev_cmp {op : CmpOp} (ho : OpR X (compareOp op) r) (ha : EV X env a da env1 p1) (hb : EV X env1 b db env2 p2) (hr : OpV X.K r da db d) (hm : behindInMarks op b = false := by first | exact nomark _ | rfl) : EV X env (.Compare a [op] [b] pos) d env2 (p1 && p2) :=
  .of (pe_cmpR ho pe_ev pe_ev hm) fun σ H0 H F S => tEV.go ha S fun x H01 H1 F1 b1 d1 => tEV.go hb b1.s fun y H02 H2 F2 b2 d2 =>
    hr x y H02 H2 _ b2.s.ex (DqM d1 b2.g.ex) d2 fun v H0' H' n dv => .mk ((b1.trans b2).new n) dv
theorem ev_un {op : UnaryOp} {r : V → Hp → VK → Prop} (ho : UnR X (unaryOp op) r) (ha : EV X env a da env1 p1) (hr : UnV X.K r da d) : EV X env (.UnaryOp op a pos) d env1 p1 :=
  .of (pe_un ho pe_ev) fun σ H0 H F S => tEV.go ha S fun x H01 H1 F1 b1 d1 => hr x H01 H1 _ b1.s.ex d1 fun v H0' H' n dv => .mk (b1.new n) dv
theorem opv_I0 {K : PySem.W.Frag} {g : Int → Int → V} {i j : Int} (h : ∀ H, Dq K H (g i j) d) : OpV K (rI0 g) (.int i) (.int j) d := fun x y H0 H Q e dx dy q => by
  cases dx; cases dy
  exact ⟨i, j, rfl, rfl, q _ H0 H (.refl e) (h H0)⟩
theorem opv_I {K : PySem.W.Frag} {C : Int → Int → Prop} {g : Int → Int → V} {i j : Int} (hc : C i j) (h : ∀ H, Dq K H (g i j) d) : OpV K (rI C g) (.int i) (.int j) d := fun x y H0 H Q e dx dy q => by
  cases dx; cases dy
  exact ⟨i, j, rfl, rfl, hc, q _ H0 H (.refl e) (h H0)⟩
/-- // by any number that isn't 0, below 2 ^ 9000 -/
def CDivA (_ j : Int) : Prop := j ≠ 0 ∧ j.natAbs.log2 < 9000
theorem op_fdivA : OpR X (binaryOp .FloorDiv) (rI CDivA fun i j => .int (i.fdiv j)) := opI fun _ _ _ _ _ _ _ hc q => PyProof.Rows.floordiv_int hc.1 q (.inl (PyProof.noPylong_of_log2 hc.2))
variable {i j : Int}
theorem ev_add (ha : EV X env a (.int i) env1 p1) (hb : EV X env1 b (.int j) env2 p2) : EV X env (.BinOp a .Add b pos) (.int (i + j)) env2 (p1 && p2) := ev_bin op_add ha hb (opv_I0 fun _ => .int _)
theorem ev_sub (ha : EV X env a (.int i) env1 p1) (hb : EV X env1 b (.int j) env2 p2) : EV X env (.BinOp a .Sub b pos) (.int (i - j)) env2 (p1 && p2) := ev_bin op_sub ha hb (opv_I0 fun _ => .int _)
theorem ev_mul (ha : EV X env a (.int i) env1 p1) (hb : EV X env1 b (.int j) env2 p2) (hc : CMulW i j) : EV X env (.BinOp a .Mult b pos) (.int (i * j)) env2 (p1 && p2) := ev_bin op_mulW ha hb (opv_I hc fun _ => .int _)
theorem ev_fdiv (ha : EV X env a (.int i) env1 p1) (hb : EV X env1 b (.int j) env2 p2) (hc : CDivA i j) : EV X env (.BinOp a .FloorDiv b pos) (.int (i.fdiv j)) env2 (p1 && p2) := ev_bin op_fdivA ha hb (opv_I hc fun _ => .int _)
theorem ev_mod (ha : EV X env a (.int i) env1 p1) (hb : EV X env1 b (.int j) env2 p2) (hc : 0 < j) : EV X env (.BinOp a .Mod b pos) (.int (i % j)) env2 (p1 && p2) := ev_bin op_mod ha hb (opv_I hc fun _ => .int _)
theorem ev_neg (ha : EV X env a (.int i) env1 p1) : EV X env (.UnaryOp .USub a pos) (.int (-i)) env1 p1 := ev_un un_neg ha fun x H0 H Q e dx q => by
  cases dx
  exact ⟨i, rfl, q _ H0 H (.refl e) (.int _)⟩
theorem ev_lt (ha : EV X env a (.int i) env1 p1) (hb : EV X env1 b (.int j) env2 p2) : EV X env (.Compare a [.Lt] [b] pos) (.bool (decide (i < j))) env2 (p1 && p2) := ev_cmp op_lt ha hb (opv_I0 fun _ => .bl _)
theorem ev_le (ha : EV X env a (.int i) env1 p1) (hb : EV X env1 b (.int j) env2 p2) : EV X env (.Compare a [.LtE] [b] pos) (.bool (decide (i ≤ j))) env2 (p1 && p2) := ev_cmp op_le ha hb (opv_I0 fun _ => .bl _)
theorem ev_gt (ha : EV X env a (.int i) env1 p1) (hb : EV X env1 b (.int j) env2 p2) : EV X env (.Compare a [.Gt] [b] pos) (.bool (decide (j < i))) env2 (p1 && p2) := ev_cmp op_gt ha hb (opv_I0 fun _ => .bl _)
theorem ev_ge (ha : EV X env a (.int i) env1 p1) (hb : EV X env1 b (.int j) env2 p2) : EV X env (.Compare a [.GtE] [b] pos) (.bool (decide (j ≤ i))) env2 (p1 && p2) := ev_cmp op_ge ha hb (opv_I0 fun _ => .bl _)
theorem opv_eqD {K : PySem.W.Frag} (s1 : SeqAt.shaped da = true) (s2 : SeqAt.shaped db = true) : OpV K (rEqD K) da db (.bool (PyData.eqv da db)) := fun x y H0 H Q e dx dy q =>
  ⟨da, db, dq_dp _ _ (DqM dx e), dq_dp _ _ (DqM dy e), s1, s2, q _ H0 H (.refl e) (.bl _)⟩
theorem opv_neD {K : PySem.W.Frag} (s1 : SeqAt.shaped da = true) (s2 : SeqAt.shaped db = true) : OpV K (rNeD K) da db (.bool (!PyData.eqv da db)) := fun x y H0 H Q e dx dy q =>
  ⟨da, db, dq_dp _ _ (DqM dx e), dq_dp _ _ (DqM dy e), s1, s2, q _ H0 H (.refl e) (.bl _)⟩
theorem ev_eq {k : Nat} (hr : Room k X.A) (ha : EV X env a da env1 p1) (hb : EV X env1 b db env2 p2) (s1 : SeqAt.shaped da = true) (s2 : SeqAt.shaped db = true) : EV X env (.Compare a [.Eq] [b] pos) (.bool (PyData.eqv da db)) env2 (p1 && p2) := ev_cmp (op_eqD hr.units) ha hb (opv_eqD s1 s2)
theorem ev_ne {k : Nat} (hr : Room k X.A) (ha : EV X env a da env1 p1) (hb : EV X env1 b db env2 p2) (s1 : SeqAt.shaped da = true) (s2 : SeqAt.shaped db = true) : EV X env (.Compare a [.NotEq] [b] pos) (.bool (!PyData.eqv da db)) env2 (p1 && p2) := ev_cmp (op_neD hr.units) ha hb (opv_neD s1 s2)
theorem ev_is {c : EV X env a d env1 p1} (h : EV X env a d env1 p1) {d' : PyData} (e : d = d') : EV X env a d' env1 p1 := e ▸ h
theorem EV.to (h : EV X env a d env1 p1) {d' : PyData} (e : d = d') : EV X env a d' env1 p1 := e ▸ h
theorem EV.toP (h : EV X env a d env1 p1) {p' : Bool} (e : p1 = p') : EV X env a d env1 p' := e ▸ h
theorem EL.to (h : EL X env a ds env1 p1) {d' : List PyData} (e : ds = d') : EL X env a d' env1 p1 := e ▸ h

/-! ### displays -/
theorem few {n : Nat} (h : Nat.ble n 1000 = true) : n ≤ sizeLine := Nat.le_trans (Nat.le_of_ble_eq_true h) (by decide)
theorem ea_nil : EA X env [] [] env true := .of pa_nil fun σ H0 H F S => ⟨H0, F, S, .refl, fun _ => ⟨rfl, .refl S.ex⟩, .nil⟩
theorem ea_cons (ha : EV X env a da env1 p1) (hb : EA X env1 es ds env2 p2) (hs : starEach (a :: es) X.env = (false, eval a X.env) :: starEach es X.env := by rfl) : EA X env (a :: es) (da :: ds) env2 (p1 && p2) :=
  .of (pa_cons pe_ev pa_ea hs) fun σ H0 H F S => tEV.go ha S fun x H01 H1 F1 b1 d1 => tEA.go hb b1.s fun vs H02 H2 F2 b2 d2 =>
    let c := b1.trans b2
    ⟨H02, F2, c.s, c.g, c.p, .cons (DqM d1 b2.g.ex) d2⟩
theorem ev_tup {x1} (h : EA X env es ds env1 p1) (hz : ds.length ≤ sizeLine := by exact few (by rfl)) : EV X env (.Tuple es x1 pos) (.tuple ds) env1 p1 :=
  .of (pe_tup pa_ea) fun σ H0 H F S => tEA.go h S fun vs H01 H1 F1 b1 d1 => ⟨by rw [da_len d1]; exact hz, fun l hl => .mk (b1.new (.laid b1.s.ex hl _)) (.tup (SqT.of upd_same) (DqAllM d1 (same_upd (same_none b1.s.ex hl) _)))⟩
theorem VKl.mk {K : PySem.W.Frag} {env' : List Sv} {σ : St} {H0 H H0' H' : Hp} {F F' : Fp} {pu : Bool} {l : Addr} {xs : List V} (b : Bnd K env' σ H0 H F pu H0' H' F') (hl : H' l = none) (h : DqAll K H0' xs ds) : VKl K env' σ H0 H F ds pu (.ref l) (upd H' l (.lst xs)) := by
  have c := b.new (.other b.s.ex hl (.lst xs))
  refine ⟨H0', F', l, xs, rfl, c.s, c.g, c.p, b.fresh hl, same_none b.s.ex hl, upd_same, fun j m => ?_, h⟩
  obtain ⟨_, o, e⟩ := b.s.out j l m
  rw [hl] at e
  cases e
theorem el_lst (h : EA X env es ds env1 p1) (hz : ds.length ≤ sizeLine := by exact few (by rfl)) : EL X env (.List es pos) ds env1 p1 :=
  .of (pe_lst pa_ea) fun σ H0 H F S => tEA.go h S fun vs H01 H1 F1 b1 d1 => ⟨by rw [da_len d1]; exact hz, fun l hl => .mk b1 hl d1⟩
/-- a new list is shared -/
theorem EL.ev (h : EL X env e ds env1 p1) : EV X env e (.list ds) env1 p1 :=
  .of pe_el fun σ H0 H F S => tEL.go h S fun l xs H01 H1 F1 b1 n1 n2 hl nf hd =>
    .mk (b1.share n1 n2 hl nf) (.lst upd_same (DqAllM hd (same_upd n2 _)))
end
end Pu
end
section
set_option Elab.async false
set_option linter.all false
set_option maxRecDepth 100000
set_option maxHeartbeats 2000000
namespace Pu
open PySem PySem.Spec L2
section
variable {X : Cx} {env env1 env2 env' : List Sv} {a b c e t : Expr} {es rest : List Expr} {da db d : PyData} {ds es' : List PyData} {pos : Pos} {p p1 p2 ba bb : Bool} {r : R2}

/-! ### tests -/
theorem et_val (h : EV X env e (.bool ba) env1 p1) (he : ∀ whole, isTrue e X.env whole = (do let v ← whole; standAt e.pos; holding [v] (truthy v)) := by intro _; rfl) : ET X env e ba env1 p1 :=
  .of (pt_val pe_ev he) fun σ H0 H F S => tEV.go h S fun v H01 H1 F1 b1 d1 => by
    cases d1
    exact ⟨ba, rfl, .mk b1⟩
theorem et_cmp {op : CmpOp} (ho : OpR X (compareOp op) r) (ha : EV X env a da env1 p1) (hb : EV X env1 b db env2 p2) (hr : OpV X.K r da db (.bool ba)) (hm : behindInMarks op b = false := by first | exact nomark _ | rfl) : ET X env (.Compare a [op] [b] pos) ba env2 (p1 && p2) :=
  .of (pt_cmpR ho pe_ev pe_ev hm) fun σ H0 H F S => tEV.go ha S fun x H01 H1 F1 b1 d1 => tEV.go hb b1.s fun y H02 H2 F2 b2 d2 =>
    hr x y H02 H2 _ b2.s.ex (DqM d1 b2.g.ex) d2 fun v H0' H' n dv => by
      cases dv
      exact ⟨ba, rfl, .mk ((b1.trans b2).new n)⟩
variable {i j : Int} in
theorem et_lt (ha : EV X env a (.int i) env1 p1) (hb : EV X env1 b (.int j) env2 p2) : ET X env (.Compare a [.Lt] [b] pos) (decide (i < j)) env2 (p1 && p2) := et_cmp op_lt ha hb (opv_I0 fun _ => .bl _)
variable {i j : Int} in
theorem et_le (ha : EV X env a (.int i) env1 p1) (hb : EV X env1 b (.int j) env2 p2) : ET X env (.Compare a [.LtE] [b] pos) (decide (i ≤ j)) env2 (p1 && p2) := et_cmp op_le ha hb (opv_I0 fun _ => .bl _)
variable {i j : Int} in
theorem et_gt (ha : EV X env a (.int i) env1 p1) (hb : EV X env1 b (.int j) env2 p2) : ET X env (.Compare a [.Gt] [b] pos) (decide (j < i)) env2 (p1 && p2) := et_cmp op_gt ha hb (opv_I0 fun _ => .bl _)
variable {i j : Int} in
theorem et_ge (ha : EV X env a (.int i) env1 p1) (hb : EV X env1 b (.int j) env2 p2) : ET X env (.Compare a [.GtE] [b] pos) (decide (j ≤ i)) env2 (p1 && p2) := et_cmp op_ge ha hb (opv_I0 fun _ => .bl _)
theorem et_eq {k : Nat} (hr : Room k X.A) (ha : EV X env a da env1 p1) (hb : EV X env1 b db env2 p2) (s1 : SeqAt.shaped da = true) (s2 : SeqAt.shaped db = true) : ET X env (.Compare a [.Eq] [b] pos) (PyData.eqv da db) env2 (p1 && p2) := et_cmp (op_eqD hr.units) ha hb (opv_eqD s1 s2)
theorem et_ne {k : Nat} (hr : Room k X.A) (ha : EV X env a da env1 p1) (hb : EV X env1 b db env2 p2) (s1 : SeqAt.shaped da = true) (s2 : SeqAt.shaped db = true) : ET X env (.Compare a [.NotEq] [b] pos) (!PyData.eqv da db) env2 (p1 && p2) := et_cmp (op_neD hr.units) ha hb (opv_neD s1 s2)
theorem et_not (h : ET X env e ba env1 p1) : ET X env (.UnaryOp .Not e pos) (!ba) env1 p1 := .of (pt_not pt_et) fun σ H0 H F S => tET.go h S fun H01 H1 F1 b1 => .mk b1
theorem EW.et (h : EW X env e ba env1 p1) : ET X env e ba env1 p1 := ⟨fun pins s σ H0 H F I S => h.run _ pins s σ H0 H F I S⟩
theorem ew_and1 (h : ET X env a ba env1 p1) : EW X env (.BoolOp .And [a] pos) ba env1 p1 := .of (pw_and1 pt_et) fun σ H0 H F S => tET.go h S fun H01 H1 F1 b1 => .mk b1
theorem ew_or1 (h : ET X env a ba env1 p1) : EW X env (.BoolOp .Or [a] pos) ba env1 p1 := .of (pw_or1 pt_et) fun σ H0 H F S => tET.go h S fun H01 H1 F1 b1 => .mk b1
theorem ew_and (h : ET X env a ba env true) (h2 : ba = true → EW X env (.BoolOp .And (b :: rest) pos) bb env true) : EW X env (.BoolOp .And (a :: b :: rest) pos) (ba && bb) env true :=
  .of (pw_and pt_et pw_ew) fun σ H0 H F S => tET.go h S fun H01 H1 F1 b1 => by
    cases ba with
    | true => exact iteT (tEW.go (h2 rfl) b1.s fun H02 H2 F2 b2 => .mk (b1.trans b2))
    | false => exact iteF (.mk b1)
theorem ew_or (h : ET X env a ba env true) (h2 : ba = false → EW X env (.BoolOp .Or (b :: rest) pos) bb env true) : EW X env (.BoolOp .Or (a :: b :: rest) pos) (ba || bb) env true :=
  .of (pw_or pt_et pw_ew) fun σ H0 H F S => tET.go h S fun H01 H1 F1 b1 => by
    cases ba with
    | true => exact iteT (.mk b1)
    | false => exact iteF (tEW.go (h2 rfl) b1.s fun H02 H2 F2 b2 => .mk (b1.trans b2))
theorem ET.to (h : ET X env e ba env1 p1) {b' : Bool} (q : ba = b') : ET X env e b' env1 p1 := q ▸ h
/-- as values -/
theorem ev_one {op} (h : EV X env a d env1 p1) : EV X env (.BoolOp op [a] pos) d env1 p1 := .of (pe_one pe_ev) fun σ H0 H F S => tEV.go h S fun v H01 H1 F1 b1 d1 => .mk b1 d1
theorem ev_and (h : EV X env a (.bool ba) env true) (h2 : ba = true → EV X env (.BoolOp .And (b :: rest) pos) (.bool bb) env true) : EV X env (.BoolOp .And (a :: b :: rest) pos) (.bool (ba && bb)) env true :=
  .of (pe_and pe_ev pe_ev) fun σ H0 H F S => tEV.go h S fun v H01 H1 F1 b1 d1 => by
    cases d1
    refine ⟨ba, rfl, ?_⟩
    cases ba with
    | true => exact iteT (tEV.go (h2 rfl) b1.s fun v H02 H2 F2 b2 d2 => .mk (b1.trans b2) d2)
    | false => exact iteF (.mk b1 (.bl _))
theorem ev_or (h : EV X env a (.bool ba) env true) (h2 : ba = false → EV X env (.BoolOp .Or (b :: rest) pos) (.bool bb) env true) : EV X env (.BoolOp .Or (a :: b :: rest) pos) (.bool (ba || bb)) env true :=
  .of (pe_or pe_ev pe_ev) fun σ H0 H F S => tEV.go h S fun v H01 H1 F1 b1 d1 => by
    cases d1
    refine ⟨ba, rfl, ?_⟩
    cases ba with
    | true => exact iteT (.mk b1 (.bl _))
    | false => exact iteF (tEV.go (h2 rfl) b1.s fun v H02 H2 F2 b2 d2 => .mk (b1.trans b2) d2)
theorem ev_not (h : EV X env e (.bool ba) env1 p1) : EV X env (.UnaryOp .Not e pos) (.bool (!ba)) env1 p1 := .of (pe_not pe_ev) fun σ H0 H F S => tEV.go h S fun v H01 H1 F1 b1 d1 => by
  cases d1
  exact ⟨ba, rfl, .mk b1 (.bl _)⟩
theorem ev_ifx (h : ET X env c ba env1 p1) (h1 : ba = true → EV X env1 a d env2 p2) (h2 : ba = false → EV X env1 b d env2 p2) : EV X env (.IfExp c a b pos) d env2 (p1 && p2) :=
  .of (pe_ifExp pt_et pe_ev pe_ev) fun σ H0 H F S => tET.go h S fun H01 H1 F1 b1 => by
    cases ba with
    | true => exact iteT (tEV.go (h1 rfl) b1.s fun v H02 H2 F2 b2 d2 => .mk (b1.trans b2) d2)
    | false => exact iteF (tEV.go (h2 rfl) b1.s fun v H02 H2 F2 b2 d2 => .mk (b1.trans b2) d2)

/-! ### places, slices -/
theorem atI_da {K : PySem.W.Frag} {H : Hp} {xs : List V} {i : Int} (h : DqAll K H xs ds) (e : atI ds i = some d) : ∃ v, atI xs i = some v ∧ Dq K H v d := by
  unfold atI at e ⊢
  rw [da_len h]
  cases q : ixN ds.length i with
  | none => rw [q] at e; cases e
  | some j =>
    rw [q] at e
    exact da_at h e
theorem ev_ixT {i : Int} (ha : EV X env a (.tuple ds) env1 p1) (hb : EV X env1 b (.int i) env2 p2) (e : atI ds i = some d) (hs : PlainIx b := by intro _ _; rfl) : EV X env (.Subscript a b pos) d env2 (p1 && p2) :=
  .of (pe_ix ix_tup pe_ev pe_ev hs) fun σ H0 H F S => tEV.go ha S fun x H01 H1 F1 b1 d1 => tEV.go hb b1.s fun y H02 H2 F2 b2 d2 => by
    have d1' := DqM d1 b2.g.ex
    cases d1' with
    | tup hs hall =>
      cases d2
      obtain ⟨v, e1, hv⟩ := atI_da hall e
      exact ⟨_, _, _, v, rfl, rfl, sameT b2.s.ex hs, e1, .mk (b1.trans b2) hv⟩
theorem ev_ixL {i : Int} (ha : EV X env a (.list ds) env1 p1) (hb : EV X env1 b (.int i) env2 p2) (e : atI ds i = some d) (hs : PlainIx b := by intro _ _; rfl) : EV X env (.Subscript a b pos) d env2 (p1 && p2) :=
  .of (pe_ix ix_list pe_ev pe_ev hs) fun σ H0 H F S => tEV.go ha S fun x H01 H1 F1 b1 d1 => tEV.go hb b1.s fun y H02 H2 F2 b2 d2 => by
    have d1' := DqM d1 b2.g.ex
    cases d1' with
    | lst hs hall =>
      cases d2
      obtain ⟨v, e1, hv⟩ := atI_da hall e
      exact ⟨_, _, _, v, rfl, rfl, SqL.of (b2.s.ex _ _ hs), e1, .mk (b1.trans b2) hv⟩
/-- the items of xs[lo:hi] -/
def cutD (xs : List PyData) (lo hi : Option Int) : List PyData := (xs.drop (HT.sIx xs.length 0 lo)).take (HT.sIx xs.length xs.length hi - HT.sIx xs.length 0 lo)
theorem cut_da {K : PySem.W.Frag} {H : Hp} {xs : List V} {lo hi : Option Int} (h : DqAll K H xs ds) : DqAll K H (cutV xs lo hi) (cutD ds lo hi) := by
  unfold cutV cutD
  rw [da_len h]
  exact da_take _ (da_drop _ h)
structure EO (X : Cx) (env : List Sv) (e : Option Expr) (o : Option Int) : Prop where
  run : ∃ t, PO X e t ∧ ∀ σ H0 H F (Q : Option Int → Hp → Prop), Sl X.K env σ H0 H F → (∀ H0' H', Bnd X.K env σ H0 H F true H0' H' F → Q o H') → t σ H Q
theorem eo_none : EO X env none none := ⟨_, po_none, fun σ H0 H F Q S q => q _ _ (.refl S)⟩
theorem eo_some {i : Int} (h : EV X env e (.int i) env true) : EO X env (some e) (some i) := ⟨_, po_some pe_ev, fun σ H0 H F Q S q => tEV.go h S fun v H01 H1 F1 b1 d1 => by
  cases d1
  refine ⟨i, rfl, ?_⟩
  have e := (b1.p rfl).1
  subst e
  exact q _ _ b1⟩
theorem el_slice {lo hi : Option Expr} {l u : Option Int} {p2' : Pos} (ha : EV X env a (.list ds) env1 p1) (hl : EO X env1 lo l) (hu : EO X env1 hi u) : EL X env (.Subscript a (.Slice lo hi none p2') pos) (cutD ds l u) env1 p1 := by
  obtain ⟨tl, pl, ql⟩ := hl.run
  obtain ⟨tu, pu, qu⟩ := hu.run
  refine .of (pe_slice sl_list pe_ev pl pu) fun σ H0 H F S => tEV.go ha S fun x H01 H1 F1 b1 d1 => ql _ _ _ _ _ b1.s fun H02 H2 b2 => qu _ _ _ _ _ b2.s fun H03 H3 b3 => ?_
  have d3 := DqM (DqM d1 b2.g.ex) b3.g.ex
  cases d3 with
  | lst hs hall =>
    have b := (b1.trans b2).trans b3
    simp only [Bool.and_true] at b
    exact ⟨_, _, rfl, SqL.of (b3.s.ex _ _ hs), fun p hp => .mk b hp (cut_da hall)⟩
theorem ev_sliceT {lo hi : Option Expr} {l u : Option Int} {p2' : Pos} (ha : EV X env a (.tuple ds) env1 p1) (hl : EO X env1 lo l) (hu : EO X env1 hi u) (hw : ¬ (HT.sIx ds.length 0 l = 0 ∧ HT.sIx ds.length ds.length u = ds.length)) : EV X env (.Subscript a (.Slice lo hi none p2') pos) (.tuple (cutD ds l u)) env1 p1 := by
  obtain ⟨tl, pl, ql⟩ := hl.run
  obtain ⟨tu, pu, qu⟩ := hu.run
  refine .of (pe_slice sl_tup pe_ev pl pu) fun σ H0 H F S => tEV.go ha S fun x H01 H1 F1 b1 d1 => ql _ _ _ _ _ b1.s fun H02 H2 b2 => qu _ _ _ _ _ b2.s fun H03 H3 b3 => ?_
  have d3 := DqM (DqM d1 b2.g.ex) b3.g.ex
  cases d3 with
  | tup hs hall =>
    have b := (b1.trans b2).trans b3
    simp only [Bool.and_true] at b
    refine ⟨_, _, rfl, sameT b3.s.ex hs, by rw [da_len hall]; exact hw, fun p hp => .mk (b.new (.laid b.s.ex hp _)) (.tup (SqT.of upd_same) (DqAllM (cut_da hall) (same_upd (same_none b.s.ex hp) _)))⟩
theorem el_rev {k : Nat} {q1 q2 q3 : Pos} (ha : EV X env a (.list ds) env1 p1) : EL X env (.Subscript a (.Slice none none (some (.UnaryOp .USub (.Constant (.int 1) k q1) q2)) q3) pos) ds.reverse env1 p1 :=
  .of (pe_revL pe_ev) fun σ H0 H F S => tEV.go ha S fun x H01 H1 F1 b1 d1 => by
    cases d1 with
    | lst hs hall => exact ⟨_, _, rfl, SqL.of (b1.s.ex _ _ hs), fun p hp => .mk b1 hp (da_rev hall)⟩

/-! ### lists put together -/
theorem el_bin {op : Operator} (ho : OpR X (binaryOp op) r) (ha : EV X env a da env1 p1) (hb : EV X env1 b db env2 p2) (hr : OpL X.K r da db ds) : EL X env (.BinOp a op b pos) ds env2 (p1 && p2) :=
  .of (pe_op ho pe_ev pe_ev) fun σ H0 H F S => tEV.go ha S fun x H01 H1 F1 b1 d1 => tEV.go hb b1.s fun y H02 H2 F2 b2 d2 =>
    hr x y H02 H2 _ b2.s.ex (DqM d1 b2.g.ex) d2 fun l xs hl h => .mk (b1.trans b2) hl h
theorem el_cat {xs ys : List PyData} (ha : EV X env a (.list xs) env1 p1) (hb : EV X env1 b (.list ys) env2 p2) (hz : xs.length + ys.length ≤ sizeLine) : EL X env (.BinOp a .Add b pos) (xs ++ ys) env2 (p1 && p2) :=
  el_bin op_cat ha hb fun x y H0 H Q e dx dy q => by
    cases dx with
    | lst h1 a1 =>
      cases dy with
      | lst h2 a2 => exact ⟨_, _, _, _, rfl, rfl, e _ _ h1, e _ _ h2, by rw [da_len a1, da_len a2]; exact hz, fun l hl => q l _ hl (da_app a1 a2)⟩
theorem da_rep {K : PySem.W.Frag} {H : Hp} {xs : List V} (h : DqAll K H xs ds) : ∀ n, DqAll K H (List.replicate n xs).flatten (List.replicate n ds).flatten
  | 0 => .nil
  | n + 1 => by
    rw [List.replicate_succ, List.replicate_succ, List.flatten_cons, List.flatten_cons]
    exact da_app h (da_rep h n)
theorem el_rep {k : Int} (ha : EV X env a (.list [d]) env1 p1) (hb : EV X env1 b (.int k) env2 p2) (h0 : 0 ≤ k) (hz : k ≤ 1000000) : EL X env (.BinOp a .Mult b pos) (List.replicate k.toNat d) env2 (p1 && p2) := by
  have e0 : (List.replicate k.toNat [d]).flatten = List.replicate k.toNat d := by simp
  refine el_bin op_rep ha hb fun x y H0 H Q e dx dy q => ?_
  cases dy
  cases dx with
  | lst h1 a1 =>
    have hl := da_len a1
    refine ⟨_, k, _, rfl, rfl, e _ _ h1, by omega, by omega, ?_, fun l hl => ?_⟩
    · rw [hl]
      have : sizeLine = 16777216 := by decide
      simp only [List.length_singleton]
      omega
    · have a2 := da_rep a1 k.toNat
      rw [e0] at a2
      exact q l _ hl a2

/-! ### calls -/
theorem ev_callB {f : Str} {pf : Pos} {id : String} {r : List V → Hp → VK → Prop} (hc : CallR X (.builtin id) r) (hm : X.mg f = none) (hv : bootBuiltins f = some (.builtin id)) (ha : EA X env (e :: es) ds env1 p1) (hr : CallV X.K r ds d) (hg : Gl X f := by rfl)
    (hn : f ≠ "__name__" := by decide) (hdb : (f == ("__debug__" : Str)) = false := by decide) (he : starEach (e :: es) X.env = (false, eval e X.env) :: starEach es X.env := by rfl) (hpl : (backTo pos (starEach es X.env)).any (·.1) = false := by rfl) :
    EV X env (.Call (.Name f pf) (e :: es) [] pos) d env1 p1 :=
  .of (pe_callB hc hg hm hv pa_ea hn hdb he hpl) fun σ H0 H F S => tEA.go ha S fun vs H01 H1 F1 b1 d1 => hr vs H01 H1 _ b1.s.ex d1 fun v H0' H' n dv => .mk (b1.new n) dv
theorem ev_callTy {f : Str} {pf : Pos} {id : String} {r : List V → Hp → VK → Prop} (hc : CallR X (.type id) r) (hm : X.mg f = none) (hv : bootBuiltins f = some (.type id)) (ha : EA X env (e :: es) ds env1 p1) (hr : CallV X.K r ds d) (hg : Gl X f := by rfl)
    (hn : f ≠ "__name__" := by decide) (hdb : (f == ("__debug__" : Str)) = false := by decide) (he : starEach (e :: es) X.env = (false, eval e X.env) :: starEach es X.env := by rfl) (hpl : (backTo pos (starEach es X.env)).any (·.1) = false := by rfl) :
    EV X env (.Call (.Name f pf) (e :: es) [] pos) d env1 p1 :=
  .of (pe_callTy hc hg hm hv pa_ea hn hdb he hpl) fun σ H0 H F S => tEA.go ha S fun vs H01 H1 F1 b1 d1 => hr vs H01 H1 _ b1.s.ex d1 fun v H0' H' n dv => .mk (b1.new n) dv
theorem el_callTy {f : Str} {pf : Pos} {id : String} {r : List V → Hp → VK → Prop} (hc : CallR X (.type id) r) (hm : X.mg f = none) (hv : bootBuiltins f = some (.type id)) (ha : EA X env (e :: es) ds env1 p1) (hr : CallL X.K r ds es') (hg : Gl X f := by rfl)
    (hn : f ≠ "__name__" := by decide) (hdb : (f == ("__debug__" : Str)) = false := by decide) (he : starEach (e :: es) X.env = (false, eval e X.env) :: starEach es X.env := by rfl) (hpl : (backTo pos (starEach es X.env)).any (·.1) = false := by rfl) :
    EL X env (.Call (.Name f pf) (e :: es) [] pos) es' env1 p1 :=
  .of (pe_callTy hc hg hm hv pa_ea hn hdb he hpl) fun σ H0 H F S => tEA.go ha S fun vs H01 H1 F1 b1 d1 => hr vs H01 H1 _ b1.s.ex d1 fun l xs hl h => .mk b1 hl h
/-- a module's name for a built-in function -/
theorem ev_callBf {f : Str} {pf : Pos} {id : String} {r : List V → Hp → VK → Prop} (hc : CallR X (.builtin id) r) (hm : X.mg f = some (.builtin id)) (ha : EA X env (e :: es) ds env1 p1) (hr : CallV X.K r ds d) (hg : Gl X f := by rfl)
    (hdb : (f == ("__debug__" : Str)) = false := by decide) (he : starEach (e :: es) X.env = (false, eval e X.env) :: starEach es X.env := by rfl) (hpl : (backTo pos (starEach es X.env)).any (·.1) = false := by rfl) :
    EV X env (.Call (.Name f pf) (e :: es) [] pos) d env1 p1 :=
  .of (pe_callBfun hc hg hm pa_ea hdb he hpl) fun σ H0 H F S => tEA.go ha S fun vs H01 H1 F1 b1 d1 => hr vs H01 H1 _ b1.s.ex d1 fun v H0' H' n dv => .mk (b1.new n) dv

variable {i j : Int} {f : Str} {pf : Pos}
theorem ev_gcd (hm : X.mg f = some (.builtin "math.gcd")) (ha : EV X env a (.int i) env1 p1) (hb : EV X env1 b (.int j) env2 p2) (hg : Gl X f := by rfl)
    (hdb : (f == ("__debug__" : Str)) = false := by decide) (h1 : starEach [a, b] X.env = (false, eval a X.env) :: starEach [b] X.env := by rfl) (h2 : starEach [b] X.env = (false, eval b X.env) :: starEach [] X.env := by rfl) (hpl : (backTo pos (starEach [b] X.env)).any (·.1) = false := by rfl) :
    EV X env (.Call (.Name f pf) [a, b] [] pos) (.int ((Nat.gcd i.natAbs j.natAbs : Nat) : Int)) env2 (p1 && p2) := by
  have h := ev_callBf (X := X) (pf := pf) (pos := pos) (d := .int ((Nat.gcd i.natAbs j.natAbs : Nat) : Int)) cr_gcd hm (ea_cons ha (ea_cons hb ea_nil h2) h1) (fun vs H0 H Q e dv q => by
    cases dv with
    | cons x1 t1 => cases t1 with | cons x2 t2 => cases t2; cases x1; cases x2; exact ⟨i, j, rfl, q _ H0 H (.refl e) (.int _)⟩) hg hdb h1 hpl
  simpa using h
def rLcm : List V → Hp → VK → Prop := fun vs H Q => ∃ a b : Int, vs = [.int a, .int b] ∧ a.natAbs.log2 < 13000 ∧ b.natAbs.log2 < 13000 ∧ Q (.int ((Nat.lcm a.natAbs b.natAbs : Nat) : Int)) H
theorem log2_le_of_le {a b : Nat} (h : a ≤ b) : a.log2 ≤ b.log2 := by
  by_cases h0 : a = 0
  · subst h0; simp
  · have h1 : b ≠ 0 := by omega
    exact (Nat.le_log2 h1).mpr (Nat.le_trans ((Nat.le_log2 h0).mp (Nat.le_refl _)) h)
theorem cr_lcm : CallR X (.builtin "math.lcm") rLcm := by
  intro pins s σ H vs us Q I r h
  obtain ⟨a, b, rfl, ha, hb, q⟩ := h
  obtain ⟨t, u, rfl⟩ := Vals.int2 r
  have l1 : (max 1 a.natAbs).log2 < 13000 := by
    rcases Nat.le_total 1 a.natAbs with h | h
    · rw [Nat.max_eq_right h]; exact ha
    · rw [Nat.max_eq_left h]; decide
  have l2 : (max a.natAbs b.natAbs).log2 < 13000 := by
    rcases Nat.le_total a.natAbs b.natAbs with h | h
    · rw [Nat.max_eq_right h]; exact hb
    · rw [Nat.max_eq_left h]; exact ha
  have e1 : Nat.lcm 1 a.natAbs = a.natAbs := Nat.lcm_one_left _
  have hl : (((Nat.lcm 1 a.natAbs).lcm b.natAbs : Nat) : Int).natAbs.log2 < bitsLine := by
    rw [e1, Int.natAbs_natCast]
    have h1 : a.natAbs.lcm b.natAbs ≤ a.natAbs * b.natAbs := Nat.div_le_self _ _
    have h2 : a.natAbs < 2 ^ 13000 := by
      by_cases z : a.natAbs = 0
      · rw [z]; exact Nat.two_pow_pos _
      · exact (Nat.log2_lt z).mp ha
    have h3 : b.natAbs < 2 ^ 13000 := by
      by_cases z : b.natAbs = 0
      · rw [z]; exact Nat.two_pow_pos _
      · exact (Nat.log2_lt z).mp hb
    have h4 : a.natAbs.lcm b.natAbs < 2 ^ 26000 := by
      refine Nat.lt_of_le_of_lt h1 ?_
      rw [show 26000 = 13000 + 13000 from rfl, Nat.pow_add]
      exact Nat.mul_lt_mul'' h2 h3
    have hb : bitsLine = 134217728 := by decide
    by_cases z : a.natAbs.lcm b.natAbs = 0
    · rw [z, hb]; decide
    · have := (Nat.log2_lt z).mpr h4
      omega
  have g := PySem.W.mg_run_lcm a t b u (by omega) (by omega) hl
  rw [e1] at g
  exact PySem.call_function_meets PySem.W.MGF.kind_lcm PySem.W.MGF.plain_lcm PySem.W.MGF.entry_lcm (PySem.W.MGF.args_lcm _ _) g.meets ⟨.int _, H, I.tok _, ⟨_, rfl⟩, q⟩
theorem ev_lcm (hm : X.mg f = some (.builtin "math.lcm")) (ha : EV X env a (.int i) env1 p1) (hb : EV X env1 b (.int j) env2 p2) (l1 : i.natAbs.log2 < 13000) (l2 : j.natAbs.log2 < 13000) (hg : Gl X f := by rfl)
    (hdb : (f == ("__debug__" : Str)) = false := by decide) (h1 : starEach [a, b] X.env = (false, eval a X.env) :: starEach [b] X.env := by rfl) (h2 : starEach [b] X.env = (false, eval b X.env) :: starEach [] X.env := by rfl) (hpl : (backTo pos (starEach [b] X.env)).any (·.1) = false := by rfl) :
    EV X env (.Call (.Name f pf) [a, b] [] pos) (.int ((Nat.lcm i.natAbs j.natAbs : Nat) : Int)) env2 (p1 && p2) := by
  have h := ev_callBf (X := X) (pf := pf) (pos := pos) (d := .int ((Nat.lcm i.natAbs j.natAbs : Nat) : Int)) cr_lcm hm (ea_cons ha (ea_cons hb ea_nil h2) h1) (fun vs H0 H Q e dv q => by
    cases dv with
    | cons x1 t1 => cases t1 with | cons x2 t2 => cases t2; cases x1; cases x2; exact ⟨i, j, rfl, l1, l2, q _ H0 H (.refl e) (.int _)⟩) hg hdb h1 hpl
  simpa using h
theorem ev_len1 (hm : X.mg "len" = none) (ha : EV X env a da env1 p1) (hd : da = .list ds ∨ da = .tuple ds) (hg : Gl X "len" := by rfl) (h1 : starEach [a] X.env = (false, eval a X.env) :: starEach [] X.env := by rfl) (hpl : (backTo pos (starEach [] X.env)).any (·.1) = false := by rfl) :
    EV X env (.Call (.Name "len" pf) [a] [] pos) (.int (ds.length : Int)) env1 p1 := by
  have h := ev_callB (X := X) (pf := pf) (pos := pos) (d := .int (ds.length : Int)) call_len_seq hm PySem.boot_len (ea_cons ha ea_nil h1) (fun vs H0 H Q e dv q => by
    cases dv with
    | cons x1 t1 =>
      cases t1
      rcases hd with rfl | rfl
      · cases x1 with
        | lst h a1 => exact ⟨_, _, rfl, .inl (SqL.of (e _ _ h)), by rw [da_len a1]; exact q _ H0 H (.refl e) (.int _)⟩
      · cases x1 with
        | tup h a1 => exact ⟨_, _, rfl, .inr (sameT e h), by rw [da_len a1]; exact q _ H0 H (.refl e) (.int _)⟩) hg (by decide) (by decide) h1 hpl
  simpa using h
theorem ev_lenL (hm : X.mg "len" = none) (ha : EV X env a (.list ds) env1 p1) (hg : Gl X "len" := by rfl) (h1 : starEach [a] X.env = (false, eval a X.env) :: starEach [] X.env := by rfl) (hpl : (backTo pos (starEach [] X.env)).any (·.1) = false := by rfl) : EV X env (.Call (.Name "len" pf) [a] [] pos) (.int (ds.length : Int)) env1 p1 := ev_len1 hm ha (.inl rfl) hg h1 hpl
theorem ev_lenT (hm : X.mg "len" = none) (ha : EV X env a (.tuple ds) env1 p1) (hg : Gl X "len" := by rfl) (h1 : starEach [a] X.env = (false, eval a X.env) :: starEach [] X.env := by rfl) (hpl : (backTo pos (starEach [] X.env)).any (·.1) = false := by rfl) : EV X env (.Call (.Name "len" pf) [a] [] pos) (.int (ds.length : Int)) env1 p1 := ev_len1 hm ha (.inr rfl) hg h1 hpl
theorem ev_abs (hm : X.mg "abs" = none) (ha : EV X env a (.int i) env1 p1) (hg : Gl X "abs" := by rfl) (h1 : starEach [a] X.env = (false, eval a X.env) :: starEach [] X.env := by rfl) (hpl : (backTo pos (starEach [] X.env)).any (·.1) = false := by rfl) :
    EV X env (.Call (.Name "abs" pf) [a] [] pos) (.int (i.natAbs : Int)) env1 p1 := by
  have h := ev_callB (X := X) (pf := pf) (pos := pos) (d := .int (i.natAbs : Int)) call_abs hm (by decide +kernel) (ea_cons ha ea_nil h1) (fun vs H0 H Q e dv q => by
    cases dv with
    | cons x1 t1 =>
      cases t1; cases x1
      refine ⟨i, rfl, ?_⟩
      have e2 : (if i < 0 then -i else i) = (i.natAbs : Int) := by split <;> omega
      rw [e2]
      exact q _ H0 H (.refl e) (.int _)) hg (by decide) (by decide) h1 hpl
  simpa using h
theorem ev_max2 (hc : X.calm = true) (hm : X.mg "max" = none) (ha : EV X env a (.int i) env1 p1) (hb : EV X env1 b (.int j) env2 p2) (hg : Gl X "max" := by rfl) (h1 : starEach [a, b] X.env = (false, eval a X.env) :: starEach [b] X.env := by rfl) (h2 : starEach [b] X.env = (false, eval b X.env) :: starEach [] X.env := by rfl) (hpl : (backTo pos (starEach [b] X.env)).any (·.1) = false := by rfl) :
    EV X env (.Call (.Name "max" pf) [a, b] [] pos) (.int (max i j)) env2 (p1 && p2) := by
  have h := ev_callB (X := X) (pf := pf) (pos := pos) (d := .int (max i j)) (call_max2 hc) hm (by decide +kernel) (ea_cons ha (ea_cons hb ea_nil h2) h1) (fun vs H0 H Q e dv q => by
    cases dv with
    | cons x1 t1 => cases t1 with | cons x2 t2 =>
      cases t2; cases x1; cases x2
      refine ⟨i, j, rfl, ?_⟩
      have e2 : (if j > i then j else i) = max i j := by split <;> omega
      rw [e2]
      exact q _ H0 H (.refl e) (.int _)) hg (by decide) (by decide) h1 hpl
  simpa using h
theorem ev_min2 (hc : X.calm = true) (hm : X.mg "min" = none) (ha : EV X env a (.int i) env1 p1) (hb : EV X env1 b (.int j) env2 p2) (hg : Gl X "min" := by rfl) (h1 : starEach [a, b] X.env = (false, eval a X.env) :: starEach [b] X.env := by rfl) (h2 : starEach [b] X.env = (false, eval b X.env) :: starEach [] X.env := by rfl) (hpl : (backTo pos (starEach [b] X.env)).any (·.1) = false := by rfl) :
    EV X env (.Call (.Name "min" pf) [a, b] [] pos) (.int (min i j)) env2 (p1 && p2) := by
  have h := ev_callB (X := X) (pf := pf) (pos := pos) (d := .int (min i j)) (call_min2 hc) hm (by decide +kernel) (ea_cons ha (ea_cons hb ea_nil h2) h1) (fun vs H0 H Q e dv q => by
    cases dv with
    | cons x1 t1 => cases t1 with | cons x2 t2 =>
      cases t2; cases x1; cases x2
      refine ⟨i, j, rfl, ?_⟩
      have e2 : (if j < i then j else i) = min i j := by split <;> omega
      rw [e2]
      exact q _ H0 H (.refl e) (.int _)) hg (by decide) (by decide) h1 hpl
  simpa using h
theorem ev_int1 (hm : X.mg "int" = none) (ha : EV X env a (.int i) env1 p1) (hg : Gl X "int" := by rfl) (h1 : starEach [a] X.env = (false, eval a X.env) :: starEach [] X.env := by rfl) (hpl : (backTo pos (starEach [] X.env)).any (·.1) = false := by rfl) :
    EV X env (.Call (.Name "int" pf) [a] [] pos) (.int i) env1 p1 := by
  have h := ev_callTy (X := X) (pf := pf) (pos := pos) (d := .int i) call_int1 hm (by decide +kernel) (ea_cons ha ea_nil h1) (fun vs H0 H Q e dv q => by
    cases dv with
    | cons x1 t1 => cases t1; cases x1; exact .inl ⟨i, rfl, q _ H0 H (.refl e) (.int _)⟩) hg (by decide) (by decide) h1 hpl
  simpa using h
theorem ev_tupleL (hm : X.mg "tuple" = none) (ha : EV X env a (.list ds) env1 p1) (hg : Gl X "tuple" := by rfl) (h1 : starEach [a] X.env = (false, eval a X.env) :: starEach [] X.env := by rfl) (hpl : (backTo pos (starEach [] X.env)).any (·.1) = false := by rfl) :
    EV X env (.Call (.Name "tuple" pf) [a] [] pos) (.tuple ds) env1 p1 := by
  have h := ev_callTy (X := X) (pf := pf) (pos := pos) (d := .tuple ds) call_tuple_of hm (by decide +kernel) (ea_cons ha ea_nil h1) (fun vs H0 H Q e dv q => by
    cases dv with
    | cons x1 t1 =>
      cases t1
      cases x1 with
      | lst h a1 => exact ⟨_, _, rfl, .inl ⟨SqL.of (e _ _ h), fun l hl => q _ _ _ (.laid e hl _) (.tup (SqT.of upd_same) (DqAllM a1 (same_upd (same_none e hl) _)))⟩⟩) hg (by decide) (by decide) h1 hpl
  simpa using h
theorem el_listT (hm : X.mg "list" = none) (ha : EV X env a (.tuple ds) env1 p1) (hg : Gl X "list" := by rfl) (h1 : starEach [a] X.env = (false, eval a X.env) :: starEach [] X.env := by rfl) (hpl : (backTo pos (starEach [] X.env)).any (·.1) = false := by rfl) :
    EL X env (.Call (.Name "list" pf) [a] [] pos) ds env1 p1 := by
  have h := el_callTy (X := X) (pf := pf) (pos := pos) (es' := ds) call_list_of hm (by decide +kernel) (ea_cons ha ea_nil h1) (fun vs H0 H Q e dv q => by
    cases dv with
    | cons x1 t1 =>
      cases t1
      cases x1 with
      | tup h a1 => exact ⟨_, _, rfl, .inr (sameT e h), fun l hl => q l _ hl a1⟩) hg (by decide) (by decide) h1 hpl
  simpa using h
theorem ev_sumL {ns : List Int} (hc : X.calm = true) (hm : X.mg "sum" = none) (ha : EV X env a (.list (ns.map .int)) env1 p1) (hg : Gl X "sum" := by rfl) (h1 : starEach [a] X.env = (false, eval a X.env) :: starEach [] X.env := by rfl) (hpl : (backTo pos (starEach [] X.env)).any (·.1) = false := by rfl) :
    EV X env (.Call (.Name "sum" pf) [a] [] pos) (.int ns.sum) env1 p1 := by
  have h := ev_callB (X := X) (pf := pf) (pos := pos) (d := .int ns.sum) (cr_sum hc) hm (by decide +kernel) (ea_cons ha ea_nil h1) (fun vs H0 H Q e dv q => by
    cases dv with
    | cons x1 t1 =>
      cases t1
      cases x1 with
      | lst h a1 =>
        have := da_ints a1
        subst this
        exact ⟨_, ns, rfl, SqL.of (e _ _ h), q _ H0 H (.refl e) (.int _)⟩) hg (by decide) (by decide) h1 hpl
  simpa using h

/-! ### a def that keeps a promise told by data -/
def spP (K : PySem.W.Frag) (C : List PyData → PyData → Prop) : Sp := fun vs H Q _ => ∃ H0 ds d, C ds d ∧ Same H0 H ∧ DqAll K H0 vs ds ∧ ∀ v H0' H', New H0 H H0' H' → Dq K H0' v d → Q v H'
structure Df (P : Program) (w : World) (K : PySem.W.Frag) (mg : Str → Option Value) (base : Heap) (k : Nat) (x : Str) (sp : Sp) : Prop where
  ex : ∃ f fd ps, FnOk P w K mg base CX0 k f fd ps sp ∧ mg x = some (.ref f) ∧ PySem.W.keepIn K (.ref f) = true ∧ Binds K fd ps []
theorem ev_call {k : Nat} {C : List PyData → PyData → Prop} (D : Df X.prog X.w X.K X.mg X.base k f (spP X.K C)) (hr : Room k X.A) (ha : EA X env (e :: es) ds env1 p1) (hC : C ds d) (hg : Gl X f := by rfl)
    (hdb : (f == ("__debug__" : Str)) = false := by decide) (he : starEach (e :: es) X.env = (false, eval e X.env) :: starEach es X.env := by rfl) (hpl : (backTo pos (starEach es X.env)).any (·.1) = false := by rfl) :
    EV X env (.Call (.Name f pf) (e :: es) [] pos) d env1 p1 := by
  obtain ⟨fa, fd, ps, F, hm, hk, hb⟩ := D.ex
  refine .of (pe_call F hr hg hm hk hb .nil pass0 pa_ea hdb he hpl) fun σ H0 H F S => tEA.go ha S fun vs H01 H1 F1 b1 d1 => ?_
  show spP X.K C (vs ++ []) H1 _ _
  rw [List.append_nil]
  exact ⟨H01, ds, d, hC, b1.s.ex, d1, fun v H0' H' n dv => .mk (b1.new n) dv⟩
end
end Pu
end
section
set_option Elab.async false
set_option linter.all false
set_option maxRecDepth 100000
set_option maxHeartbeats 2000000
/-! zip(a, b, strict=True) over lists and tuples in any mix. -/
namespace ZS
open PySem
open Sem (wp)

abbrev Zst (h : Heap) (z ti to' : Addr) (f0 : Value) : Prop :=
  h.get? z = some { cls := .type "zip", dict := none, data := .fields #[f0, .bool false, .bool true, .ref ti, .ref to'], slots := #[] }

section
variable {prog : Program} {w : World} {A : Around} {E : Value → Shared → Prop} {s : Shared} {it : Addr} {fp : List Addr} {n i : Nat} {P : Nat → Value → Prop} {T : Nat → Heap → Prop}
theorem end_item {Q : Option Value → Shared → Prop} (D : Draws prog w A it fp n P T) (hi : i < n) (st : T i s.heap)
    (q : ∀ x h' tk, P i x → T (i + 1) h' → Heap.SameBut it s.heap h' → Q (some x) { s with heap := h', toks := tk }) : wpAny (model prog w) A (Builtin.SmallTypes.nextOrEnd (.ref it)) Q E s := by
  unfold Builtin.SmallTypes.nextOrEnd
  exact wpAny_bind (wpAny_attempt (D.item i s _ _ hi st fun x h' tk hx ht hs => wpAny_pure (q x h' tk hx ht hs)))
theorem end_end {Q : Option Value → Shared → Prop} (D : Draws prog w A it fp n P T) (st : T n s.heap)
    (q : ∀ h', Heap.ExtBut it s.heap h' → Q none { s with heap := h' }) : wpAny (model prog w) A (Builtin.SmallTypes.nextOrEnd (.ref it)) Q E s := by
  unfold Builtin.SmallTypes.nextOrEnd
  refine wpAny_bind (wpAny_attempt (D.done s _ _ st fun h' e hs ⟨o, ho, hc⟩ => ?_))
  refine wpAny_bind (wpAny_isInstance (T := "StopIteration") (b := true) ⟨o, ho, hc⟩ isSubtype_stop ?_)
  exact wpAny_pure (q h' hs)
end

section
variable {prog : Program} {w : World} {A : Around} {E : Value → Shared → Prop} {s : Shared} {z ti to' i1 i2 : Addr} {fp1 fp2 : List Addr} {n i : Nat} {P1 P2 : Nat → Value → Prop} {T1 T2 : Nat → Heap → Prop} {a1 a2 : Value}

theorem next_item {Q : Value → Shared → Prop} (S : ZipSep2 z ti to' i1 i2 fp1 fp2) (D1 : Draws prog w A i1 fp1 n P1 T1) (D2 : Draws prog w A i2 fp2 n P2 T2)
    (zz : Zst s.heap z ti to' .none) (zi : IsTupOf2 s.heap ti (.ref i1) (.ref i2)) (zo : IsTupOf2 s.heap to' a1 a2) (st1 : T1 i s.heap) (st2 : T2 i s.heap) (hi : i < n)
    (q : ∀ x1 x2 h' tk, P1 i x1 → P2 i x2 → Zst h' z ti to' (rawInt s.heap.objs.size) → IsTupOf2 h' to' x1 x2 → T1 (i + 1) h' → T2 (i + 1) h' → IsTupOf2 h' s.heap.objs.size x1 x2 → h'.objs.size = s.heap.objs.size + 1 →
      (∀ c o, c ≠ z → c ≠ to' → c ≠ i1 → c ≠ i2 → s.heap.get? c = some o → h'.get? c = some o) → Q (.ref s.heap.objs.size) { s with heap := h', toks := tk }) :
    wpAny (model prog w) A (Builtin.«zip.__next__» ⟨[.ref z], []⟩) (fun fin s' => ∃ v, fin = .done (.ret v) ∧ Q v s') E s := by
  obtain ⟨hp, g, dr, tk0, os⟩ := s
  show wpAny _ _ (field (.ref z) 2 >>= _) _ _ _
  refine wpAny_bind (wpAny_field zz rfl (x := .bool true) rfl ?_)
  show wpAny _ _ (field (.ref z) 3 >>= _) _ _ _
  refine wpAny_bind (wpAny_field zz rfl (x := .ref ti) rfl ?_)
  refine wpAny_bind (wpAny_seqItems zi rfl ?_)
  show wpAny _ _ (Builtin.SmallTypes.ownedTupleIsFree (.ref z) >>= _) _ _ _
  refine wpAny_bind ?_
  unfold Builtin.SmallTypes.ownedTupleIsFree
  refine wpAny_bind (wpAny_field zz rfl (x := .none) rfl (wpAny_pure ?_))
  simp only [if_true]
  refine wpAny_bind (wpAny_rule ?_)
  refine wpAny_bind (wpAny_field zz rfl (x := .ref to') rfl ?_)
  refine wpAny_bind (wpAny_setField_rec zz (by simp) fun g0 zz0 ss0 => ?_)
  replace zz0 : Zst g0 z ti to' .ellipsis := zz0
  replace ss0 : Heap.SameBut z hp g0 := ss0
  refine wpAny_bind ?_
  simp only [List.zipIdx_cons, List.zipIdx_nil, List.forIn_cons, List.forIn_nil]
  refine wpAny_bind (wpAny_bind (wpAny_onRaise ?_))
  show wpAny _ _ (Builtin.SmallTypes.nextOrEnd (.ref i1)) _ _ ⟨g0, g, dr, tk0, os⟩
  refine end_item D1 hi (D1.over st1 ss0 S.zf1) fun x1 p1 tk1 hx1 sn1 hp1 => ?_
  replace hp1 : Heap.SameBut i1 g0 p1 := hp1
  have hU1 : IsTupOf2 p1 to' a1 a2 := hp1.extBut _ _ S.Ti1 (ss0.extBut _ _ S.TOz zo)
  refine wpAny_bind (wpAny_seqItems (s := ⟨p1, g, dr, tk1, os⟩) hU1 rfl ?_)
  refine wpAny_bind (updateSeq_IsTupOf2 (s := ⟨p1, g, dr, tk1, os⟩) hU1 fun g1 hT1 ss1 => ?_)
  replace hT1 : IsTupOf2 g1 to' x1 a2 := hT1
  replace ss1 : Heap.SameBut to' p1 g1 := ss1
  refine wpAny_bind (wpAny_letGo (wpAny_pure ?_))
  refine wpAny_bind (wpAny_bind (wpAny_onRaise ?_))
  show wpAny _ _ (Builtin.SmallTypes.nextOrEnd (.ref i2)) _ _ ⟨g1, g, dr, tk1, os⟩
  refine end_item D2 hi (D2.over (D2.over (D2.over st2 ss0 S.zf2) hp1 S.sep1_2) ss1 S.Tf2) fun x2 p2 tk2 hx2 sn2 hp2 => ?_
  replace hp2 : Heap.SameBut i2 g1 p2 := hp2
  have hU2 : IsTupOf2 p2 to' x1 a2 := hp2.extBut _ _ S.Ti2 hT1
  refine wpAny_bind (wpAny_seqItems (s := ⟨p2, g, dr, tk2, os⟩) hU2 rfl ?_)
  refine wpAny_bind (updateSeq_IsTupOf2 (s := ⟨p2, g, dr, tk2, os⟩) hU2 fun g2 hT2 ss2 => ?_)
  replace hT2 : IsTupOf2 g2 to' x1 x2 := hT2
  replace ss2 : Heap.SameBut to' p2 g2 := ss2
  refine wpAny_bind (wpAny_letGo (wpAny_pure (wpAny_pure ?_)))
  refine wpAny_bind (wpAny_seqItems (s := ⟨g2, g, dr, tk2, os⟩) hT2 rfl ?_)
  refine wpAny_bind (wpAny_newTuple ?_)
  have sz : g2.objs.size = hp.objs.size := by rw [ss2.1, hp2.1, ss1.1, hp1.1, ss0.1]
  have z2 : Zst g2 z ti to' .ellipsis := ss2.extBut _ _ S.TOz.symm (hp2.extBut _ _ S.zi2 (ss1.extBut _ _ S.TOz.symm (hp1.extBut _ _ S.zi1 zz0)))
  have kk : ∀ c o, c ≠ z → c ≠ to' → c ≠ i1 → c ≠ i2 → hp.get? c = some o → g2.get? c = some o := fun c o cz cT c1 c2 e => ss2.extBut _ _ cT (hp2.extBut _ _ c2 (ss1.extBut _ _ cT (hp1.extBut _ _ c1 (ss0.extBut _ _ cz e))))
  have j1 : T1 (i + 1) g2 := D1.over (D1.over (D1.over sn1 ss1 S.Tf1) hp2 S.sep2_1) ss2 S.Tf1
  have j2 : T2 (i + 1) g2 := D2.over sn2 ss2 S.Tf2
  have zl : z < g2.objs.size := Heap.lt_size z2
  show wpAny _ _ (Builtin.SmallTypes.ownedTupleHandOut (.ref z) (.ref g2.objs.size) >>= _) _ _ ⟨g2.push { cls := .type "tuple", data := .seq #[x1, x2] }, g, dr, tk2, os⟩
  refine wpAny_bind ?_
  unfold Builtin.SmallTypes.ownedTupleHandOut
  have z6 : Zst (g2.push { cls := .type "tuple", data := .seq #[x1, x2] }) z ti to' .ellipsis := Heap.get?_push_of_some _ z2
  refine wpAny_bind (wpAny_setField_rec z6 (by simp) fun h7 z7 s7 => ?_)
  replace z7 : Zst h7 z ti to' (rawInt g2.objs.size) := z7
  refine wpAny_setField_rec z7 (by simp) fun h8 z8 s8 => ?_
  replace z8 : Zst h8 z ti to' (rawInt g2.objs.size) := z8
  replace s7 : Heap.SameBut z (g2.push { cls := .type "tuple", data := .seq #[x1, x2] }) h7 := s7
  replace s8 : Heap.SameBut z h7 h8 := s8
  have up : ∀ c o, c ≠ z → g2.get? c = some o → h8.get? c = some o := fun c o c1 e => s8.extBut _ _ c1 (s7.extBut _ _ c1 (Heap.get?_push_of_some _ e))
  have t8 : IsTupOf2 h8 g2.objs.size x1 x2 := s8.extBut _ _ (Nat.ne_of_gt zl) (s7.extBut _ _ (Nat.ne_of_gt zl) (Heap.get?_push_size _ rfl))
  have n8 : h8.objs.size = g2.objs.size + 1 := by rw [s8.1, s7.1, Heap.size_push]
  rw [sz] at z8 t8 n8
  refine wpAny_pure ⟨_, rfl, ?_⟩
  show Q (.ref g2.objs.size) ⟨h8, g, dr, tk2, os⟩
  rw [sz]
  exact q x1 x2 h8 tk2 hx1 hx2 z8 (up _ _ S.TOz hT2) (D1.frame _ _ _ j1 fun b hb o e => up b o (fun x => S.zf1 (x ▸ hb)) e) (D2.frame _ _ _ j2 fun b hb o e => up b o (fun x => S.zf2 (x ▸ hb)) e) t8 n8 fun c o cz cT c1 c2 e => up c o cz (kk c o cz cT c1 c2 e)

theorem next_end {Q : Fin → Shared → Prop} (hh : A.handled = none) (S : ZipSep2 z ti to' i1 i2 fp1 fp2) (D1 : Draws prog w A i1 fp1 n P1 T1) (D2 : Draws prog w A i2 fp2 n P2 T2)
    (zz : Zst s.heap z ti to' .none) (zi : IsTupOf2 s.heap ti (.ref i1) (.ref i2)) (zo : IsTupOf2 s.heap to' a1 a2) (st1 : T1 n s.heap) (st2 : T2 n s.heap)
    (q : ∀ h' e, (∀ c o, c ≠ z → c ≠ to' → c ≠ i1 → c ≠ i2 → s.heap.get? c = some o → h'.get? c = some o) → (∃ o, h'.get? e = some o ∧ o.cls = .type "StopIteration") → E (.ref e) { s with heap := h' }) :
    wpAny (model prog w) A (Builtin.«zip.__next__» ⟨[.ref z], []⟩) Q E s := by
  obtain ⟨hp, g, dr, tk0, os⟩ := s
  show wpAny _ _ (field (.ref z) 2 >>= _) _ _ _
  refine wpAny_bind (wpAny_field zz rfl (x := .bool true) rfl ?_)
  show wpAny _ _ (field (.ref z) 3 >>= _) _ _ _
  refine wpAny_bind (wpAny_field zz rfl (x := .ref ti) rfl ?_)
  refine wpAny_bind (wpAny_seqItems zi rfl ?_)
  show wpAny _ _ (Builtin.SmallTypes.ownedTupleIsFree (.ref z) >>= _) _ _ _
  refine wpAny_bind ?_
  unfold Builtin.SmallTypes.ownedTupleIsFree
  refine wpAny_bind (wpAny_field zz rfl (x := .none) rfl (wpAny_pure ?_))
  simp only [if_true]
  refine wpAny_bind (wpAny_rule ?_)
  refine wpAny_bind (wpAny_field zz rfl (x := .ref to') rfl ?_)
  refine wpAny_bind (wpAny_setField_rec zz (by simp) fun g0 zz0 ss0 => ?_)
  replace zz0 : Zst g0 z ti to' .ellipsis := zz0
  replace ss0 : Heap.SameBut z hp g0 := ss0
  refine wpAny_bind ?_
  simp only [List.zipIdx_cons, List.zipIdx_nil, List.forIn_cons, List.forIn_nil]
  refine wpAny_bind (wpAny_bind (wpAny_onRaise ?_))
  show wpAny _ _ (Builtin.SmallTypes.nextOrEnd (.ref i1)) _ _ ⟨g0, g, dr, tk0, os⟩
  refine end_end D1 (D1.over st1 ss0 S.zf1) fun p1 hp1 => ?_
  replace hp1 : Heap.ExtBut i1 g0 p1 := hp1
  have z1 : Zst p1 z ti to' .ellipsis := hp1 _ _ S.zi1 zz0
  refine wpAny_bind (wpAny_setField_rec (s := ⟨p1, g, dr, tk0, os⟩) z1 (by simp) fun g1 zz1 ss1 => ?_)
  replace ss1 : Heap.SameBut z p1 g1 := ss1
  have k1 : ∀ c o, c ≠ z → c ≠ i1 → hp.get? c = some o → g1.get? c = some o := fun c o cz c1 e => ss1.extBut _ _ cz (hp1 _ _ c1 (ss0.extBut _ _ cz e))
  have st2' : T2 n g1 := D2.frame _ _ _ st2 fun b hb o e => k1 b o (fun x => S.zf2 (x ▸ hb)) (fun x => S.sep1_2 (x ▸ hb)) e
  refine wpAny_bind (wpAny_bind ?_)
  simp only [List.drop_succ_cons, List.drop_zero, List.zipIdx_cons, List.zipIdx_nil, List.forIn_cons, List.forIn_nil]
  refine wpAny_bind (wpAny_bind (end_end (s := ⟨g1, g, dr, tk0, os⟩) D2 st2' fun p2 hp2 => ?_))
  simp only [Option.isSome_none, Bool.false_eq_true, if_false]
  refine wpAny_pure (wpAny_pure (wpAny_bind (wpAny_rule ?_)))
  have kk : ∀ c o, c ≠ z → c ≠ to' → c ≠ i1 → c ≠ i2 → hp.get? c = some o → p2.get? c = some o := fun c o cz _ c1 c2 e => hp2 _ _ c2 (k1 c o cz c1 e)
  show wpAny _ _ (newExc (.type "StopIteration") [] >>= fun e => raiseNew e) _ _ _
  simp only [newExc, newTuple]
  refine wpAny_bind (wpAny_bind (wpAny_newObj_type ?_ ?_))
  rotate_left
  · size_fits
  refine wpAny_bind (m := firstArgMember _ _) (wpAny_of_eq (a := Value.none) rfl (wpAny_newObj_type ?_ ?_))
  rotate_left
  · size_fits
  simp only [raiseNew]
  refine wpAny_bind (wpAny_handled ?_)
  rw [hh]
  refine wpAny_bind (wpAny_pure (wpAny_throw (q _ _ (fun c o cz cT c1 c2 e => Heap.get?_push_of_some _ (Heap.get?_push_of_some _ (kk c o cz cT c1 c2 e))) ⟨_, Heap.get?_push_size _ rfl, rfl⟩)))
end
end ZS
end
section
set_option Elab.async false
set_option linter.all false
set_option maxRecDepth 100000
set_option maxHeartbeats 2000000
namespace ZS
open PySem PySem.Spec PyProof.Rows L2

section
variable {prog : Program} {w : World} {A : Around} {E : Value → Shared → Prop} {s : Shared} {z ti to' i1 i2 : Addr} {fp1 fp2 : List Addr} {n i : Nat} {P1 P2 : Nat → Value → Prop} {T1 T2 : Nat → Heap → Prop} {a1 a2 : Value}
theorem pyNext_item {Q : Option Value → Shared → Prop} (S : ZipSep2 z ti to' i1 i2 fp1 fp2) (D1 : Draws prog w A.in1 i1 fp1 n P1 T1) (D2 : Draws prog w A.in1 i2 fp2 n P2 T2)
    (zz : Zst s.heap z ti to' .none) (zi : IsTupOf2 s.heap ti (.ref i1) (.ref i2)) (zo : IsTupOf2 s.heap to' a1 a2) (st1 : T1 i s.heap) (st2 : T2 i s.heap) (hi : i < n)
    (q : ∀ x1 x2 h' tk, P1 i x1 → P2 i x2 → Zst h' z ti to' (rawInt s.heap.objs.size) → IsTupOf2 h' to' x1 x2 → T1 (i + 1) h' → T2 (i + 1) h' → IsTupOf2 h' s.heap.objs.size x1 x2 → h'.objs.size = s.heap.objs.size + 1 →
      (∀ c o, c ≠ z → c ≠ to' → c ≠ i1 → c ≠ i2 → s.heap.get? c = some o → h'.get? c = some o) → Q (some (.ref s.heap.objs.size)) { s with heap := h', toks := tk }) :
    wpAny (model prog w) A (pyNext (.ref z)) Q E s := by
  have hT : s.TypeIs (.ref z) "zip" := ⟨_, zz, rfl⟩
  unfold pyNext
  exact wpAny_bind (wpAny_attempt (wpAny_callSpecial?_slot (name := Str.ofString "__next__") hT PySem.F.slot_zip_next (wpAny_call_entry PySem.F.slot_zip_next hT PySem.F.entry_zip_next
      (next_item S D1 D2 zz zi zo st1 st2 hi fun x1 x2 h' tk y1 y2 b1 b2 d1 d2 b5 b6 b7 => wpAny_pure (q x1 x2 h' tk y1 y2 b1 b2 d1 d2 b5 b6 b7)) (PySem.F.args_zip_next_1 _))))
theorem pyNext_end {Q : Option Value → Shared → Prop} (hh : A.handled = none) (S : ZipSep2 z ti to' i1 i2 fp1 fp2) (D1 : Draws prog w A.in1 i1 fp1 n P1 T1) (D2 : Draws prog w A.in1 i2 fp2 n P2 T2)
    (zz : Zst s.heap z ti to' .none) (zi : IsTupOf2 s.heap ti (.ref i1) (.ref i2)) (zo : IsTupOf2 s.heap to' a1 a2) (st1 : T1 n s.heap) (st2 : T2 n s.heap)
    (q : ∀ h', (∀ c o, c ≠ z → c ≠ to' → c ≠ i1 → c ≠ i2 → s.heap.get? c = some o → h'.get? c = some o) → Q none { s with heap := h' }) :
    wpAny (model prog w) A (pyNext (.ref z)) Q E s := by
  have hT : s.TypeIs (.ref z) "zip" := ⟨_, zz, rfl⟩
  unfold pyNext
  refine wpAny_bind (wpAny_attempt (wpAny_callSpecial?_slot (name := Str.ofString "__next__") hT PySem.F.slot_zip_next (wpAny_call_entry PySem.F.slot_zip_next hT PySem.F.entry_zip_next
    (next_end (show A.in1.handled = none from hh) S D1 D2 zz zi zo st1 st2 fun h' e hk ⟨o, ho, hc⟩ => ?_) (PySem.F.args_zip_next_1 _))))
  refine wpAny_bind (wpAny_isInstance (T := "StopIteration") (b := true) ⟨o, ho, hc⟩ isSubtype_stop ?_)
  exact wpAny_pure (q _ hk)
theorem letGo {elts : List Expr} {x1} {pos : Pos} {T : Addr} {Q : Unit → Shared → Prop} (zz : Zst s.heap z ti to' (rawInt T))
    (q : ∀ h', Zst h' z ti to' .none → Heap.SameBut z s.heap h' → Q () { s with heap := h' }) : wpAny (model prog w) A (letOwnedTupleGo (.Tuple elts x1 pos) (.ref z) (.ref T)) Q E s := by
  unfold letOwnedTupleGo
  refine wpAny_bind (wpAny_load zz ?_)
  show wpAny _ _ (if (["enumerate", "zip", "dict_itemiterator", "dict_reverseitemiterator", "odict_iterator", "itertools.zip_longest", "itertools.pairwise"].contains "zip" && (#[rawInt T, .bool false, .bool true, .ref ti, .ref to'] : Array Value)[0]? == some (rawInt T)) = true then _ else _) Q E s
  rw [if_pos (by simp)]
  refine wpAny_bind (wpAny_rule ?_)
  show wpAny _ _ (setField (.ref z) 0 .none) Q E s
  exact wpAny_setField_rec zz (by simp) fun h' z' s' => q h' z' s'
theorem self_iter {f0 : Value} {Q : Value → Shared → Prop} (zz : Zst s.heap z ti to' f0) (h : Q (.ref z) s) : wpAny (model prog w) A (pyIter (.ref z)) Q E s := by
  have hT : s.TypeIs (.ref z) "zip" := ⟨_, zz, rfl⟩
  refine wpAny_pyIter_slot hT PySem.F.slot_zip_iter (wpAny_call_entry PySem.F.slot_zip_iter hT PySem.F.entry_zip_iter ?_ (PySem.F.args_zip_iter_1 _))
  exact wpAny_pure ⟨_, rfl, "zip", _, hT, PySem.F.slot_zip_next.lookup, h⟩
end

/-! ### to begin -/
abbrev zsZ (h : Heap) (o1 o2 : Obj) : Heap := (gzO2 h o1 o2).push { cls := .type "zip", data := .fields #[.none, .bool false, .bool true, .ref ((h.push o1).push o2).objs.size, .ref (gzT2 h o1 o2).objs.size] }
theorem tc_strict (a b c : Value) : checkTypeCall "zip" ⟨[a, b], [(Str.ofString "strict", c)]⟩ = pure () := by kernel_rfl
theorem nc_strict (a b c : Value) : checkBuiltinCall "zip.__new__" ⟨[.type "zip", a, b], [(Str.ofString "strict", c)]⟩ = pure () := by kernel_rfl
theorem ao_strict (obj a b c : Value) : argsOk "object.__init__" ⟨[obj, a, b], [(Str.ofString "strict", c)]⟩ := by unfold argsOk; kernel_rfl
theorem meets_new {v1 v2 : Value} {o1 o2 : Obj} {H1 H2 : Heap → Prop} (B1 : Begins v1 o1 H1) (B2 : Begins v2 o2 H2) :
    Meets (Builtin.«zip.__new__» ⟨[.type "zip", v1, v2], [(Str.ofString "strict", .bool true)]⟩) (fun _ R s => (H1 s.heap ∧ H2 s.heap) ∧ R (.ok (.ret (.ref (gzO2 s.heap o1 o2).objs.size))) { s with heap := zsZ s.heap o1 o2 }) :=
  .of_wp fun prog w A R s h => by
    obtain ⟨hp, g, d, tk, os⟩ := s
    obtain ⟨⟨h1, h2⟩, h⟩ := h
    have hsub := sub_zip
    have r1 : ∀ {A' : Around} {E : Value → Shared → Prop} {Q : Value → Shared → Prop}, Q (.ref hp.objs.size) ⟨hp.push o1, g, d, tk, os⟩ → wpAny (model prog w) A' (pyIter v1) Q E ⟨hp, g, d, tk, os⟩ := fun q =>
      B1.iter prog w _ _ ⟨hp, g, d, tk, os⟩ _ h1 q
    have r2 : ∀ {A' : Around} {E : Value → Shared → Prop} {Q : Value → Shared → Prop}, Q (.ref (hp.push o1).objs.size) ⟨(hp.push o1).push o2, g, d, tk, os⟩ → wpAny (model prog w) A' (pyIter v2) Q E ⟨hp.push o1, g, d, tk, os⟩ := fun q =>
      B2.iter prog w _ _ ⟨hp.push o1, g, d, tk, os⟩ _ (B2.keeps _ _ h2 fun b o' e => Heap.get?_push_of_some _ e) q
    have e1 : (Str.ofString "strict" != ("strict" : Str)) = false := by decide +kernel
    have e2 : (Str.ofString "strict" == ("strict" : Str)) = true := by decide +kernel
    wp_walk using r1, r2
    exact ⟨_, rfl, h⟩
end ZS
end
section
set_option Elab.async false
set_option linter.all false
set_option maxRecDepth 100000
set_option maxHeartbeats 2000000
namespace ZS
open PySem PySem.Spec PyProof.Rows L2
section
variable {prog : Program} {w : World} {A : Around} {E : Value → Shared → Prop} {s : Shared}
theorem begins {v1 v2 : Value} {o1 o2 : Obj} {H1 H2 : Heap → Prop} {Q : Value → Shared → Prop} (B1 : Begins v1 o1 H1) (B2 : Begins v2 o2 H2) (h1 : H1 s.heap) (h2 : H2 s.heap)
    (h : ∀ h', Zst h' (s.heap.objs.size + 4) (s.heap.objs.size + 2) (s.heap.objs.size + 3) .none → IsTupOf2 h' (s.heap.objs.size + 2) (.ref s.heap.objs.size) (.ref (s.heap.objs.size + 1)) → IsTupOf2 h' (s.heap.objs.size + 3) .none .none →
      h'.get? s.heap.objs.size = some o1 → h'.get? (s.heap.objs.size + 1) = some o2 → h'.objs.size = s.heap.objs.size + 5 → (∀ c o, s.heap.get? c = some o → h'.get? c = some o) → Q (.ref (s.heap.objs.size + 4)) { s with heap := h' }) :
    wpAny (model prog w) A (call (.type "zip") [v1, v2] [(Str.ofString "strict", .bool true)]) Q E s := by
  refine callType_newKw PySem.F.called_zip (by decide) (tc_strict _ _ _) (nc_strict _ _ _) (fun obj => ao_strict obj _ _ _) PySem.F.entry_zip_new (meets_new B1 B2) ⟨⟨h1, h2⟩, ?_⟩
  have z1 : (s.heap.push o1).objs.size = s.heap.objs.size + 1 := Heap.size_push ..
  have z2 : ((s.heap.push o1).push o2).objs.size = s.heap.objs.size + 2 := by rw [Heap.size_push, Heap.size_push]
  have z3 : (gzT2 s.heap o1 o2).objs.size = s.heap.objs.size + 3 := by rw [Heap.size_push, z2]
  have z4 : (gzO2 s.heap o1 o2).objs.size = s.heap.objs.size + 4 := by rw [Heap.size_push, z3]
  have z5 : (zsZ s.heap o1 o2).objs.size = s.heap.objs.size + 5 := by rw [Heap.size_push, z4]
  have g4 : (zsZ s.heap o1 o2).get? (gzO2 s.heap o1 o2).objs.size = some _ := Heap.get?_push_size _ rfl
  have g3 : (zsZ s.heap o1 o2).get? (gzT2 s.heap o1 o2).objs.size = some _ := Heap.get?_push_of_some _ (Heap.get?_push_size _ rfl)
  have g2 : (zsZ s.heap o1 o2).get? ((s.heap.push o1).push o2).objs.size = some _ := Heap.get?_push_of_some _ (Heap.get?_push_of_some _ (Heap.get?_push_size _ rfl))
  have g1 : (zsZ s.heap o1 o2).get? (s.heap.push o1).objs.size = some _ := Heap.get?_push_of_some _ (Heap.get?_push_of_some _ (Heap.get?_push_of_some _ (Heap.get?_push_size _ B2.free)))
  have g0 : (zsZ s.heap o1 o2).get? s.heap.objs.size = some _ := Heap.get?_push_of_some _ (Heap.get?_push_of_some _ (Heap.get?_push_of_some _ (Heap.get?_push_of_some _ (Heap.get?_push_size _ B1.free))))
  rw [z4, z3, z2] at g4
  rw [z3] at g3
  rw [z2, z1] at g2
  rw [z1] at g1
  show _ ∧ _
  rw [z4]
  exact ⟨⟨_, g4, rfl⟩, h _ g4 g2 g3 g0 g1 z5 fun c o e => Heap.get?_push_of_some _ (Heap.get?_push_of_some _ (Heap.get?_push_of_some _ (Heap.get?_push_of_some _ (Heap.get?_push_of_some _ e))))⟩
end

/-! ### sequences of either kind -/
def SqK (K : PySem.W.Frag) (H : Hp) (k : Bool) (a : Addr) (xs : List V) : Prop := if k then SqT K H a xs else SqL K H a xs
def SeqO (h : Heap) (k : Bool) (a : Addr) (items : Array Value) : Prop := if k then h.IsTuple a items else h.IsList a items
def ItO (h : Heap) (k : Bool) (it a : Addr) (i : Nat) : Prop := if k then h.IsTupleIter it a i else h.IsListIter it a i
def begO (k : Bool) (a : Addr) : Obj := if k then { cls := .type "tuple_iterator", data := .fields #[.ref a, .int 0 0] } else { cls := .type "list_iterator", data := .fields #[.ref a, .int 0 0] }
theorem Vals.got : ∀ {xs : List V} {us : List Value} {i : Nat} {u : Value}, Vals xs us → us[i]? = some u → ∃ x, xs[i]? = some x ∧ RelV x u
  | _, _, _, _, .nil, e => by simp at e
  | _, _, 0, _, .cons r _, e => by simp at e; subst e; exact ⟨_, rfl, r⟩
  | _, _, i + 1, u, .cons _ r, e => by
    obtain ⟨x, h1, h2⟩ := Vals.got (i := i) r (by simpa using e)
    exact ⟨x, by simpa using h1, h2⟩
theorem begins_K (k : Bool) (a : Addr) (items : Array Value) : Begins (.ref a) (begO k a) fun h => SeqO h k a items := by
  cases k with
  | true => exact begins_tuple a items
  | false => exact begins_list a items
theorem draws_K {prog : Program} {w : World} {A : Around} (hh : A.handled = none) (k : Bool) (it l : Addr) (hne : l ≠ it) (items : Array Value) : Draws prog w A it [it, l] items.size (fun i v => items[i]? = some v) (fun i h => ItO h k it l i ∧ SeqO h k l items) := by
  cases k with
  | true => exact Draws.tuple hh it l hne items
  | false => exact Draws.list hh it l hne items
theorem ItO.at {h h' : Heap} {k : Bool} {it a : Addr} {i : Nat} (x : ItO h k it a i) (e : ∀ o, h.get? it = some o → h'.get? it = some o) : ItO h' k it a i := by
  cases k with
  | true => exact Heap.IsTupleIter.at x e
  | false => exact Heap.IsListIter.at x e
theorem ItO.obj {h : Heap} {k : Bool} {it a : Addr} {i : Nat} (x : ItO h k it a i) : ∃ o, h.get? it = some o ∧ ∀ v, o.data ≠ .cell v := by
  cases k with
  | true => obtain ⟨o, e, _, d⟩ := x; exact ⟨o, e, fun v q => by rw [d] at q; cases q⟩
  | false => obtain ⟨o, e, _, d⟩ := x; exact ⟨o, e, fun v q => by rw [d] at q; cases q⟩
theorem ItO.beg {h : Heap} {k : Bool} {it a : Addr} (e : h.get? it = some (begO k a)) : ItO h k it a 0 := by
  cases k with
  | true => exact ⟨_, e, rfl, rfl⟩
  | false => exact ⟨_, e, rfl, rfl⟩
theorem seqK {X : Cx} {pins : List (Addr × Obj)} {σ : L2.St} {H : Hp} {s : Shared} {k : Bool} {a : Addr} {xs : List V} (I : Inv X pins σ H s) (h : SqK X.K H k a xs) : ∃ its : List Value, Vals xs its ∧ SeqO s.heap k a its.toArray ∧ a < s.heap.objs.size := by
  cases k with
  | true =>
    obtain ⟨its, rv, p, _⟩ := I.tuple h
    obtain ⟨o, ho, _⟩ := id p
    exact ⟨its, rv, p, Heap.lt_size ho⟩
  | false =>
    obtain ⟨its, rv, p, _⟩ := I.list h
    exact ⟨its, rv, p.isList, p.lt⟩
theorem seqK_inj {X : Cx} {pins : List (Addr × Obj)} {σ : L2.St} {H : Hp} {s : Shared} {k : Bool} {a : Addr} {xs ys : List V} (I : Inv X pins σ H s) (h : SqK X.K H k a xs) (h' : SqK X.K H k a ys) : xs = ys := by
  cases k with
  | true => exact I.tuple_inj h h'
  | false => exact I.list_inj h h'

/-- zip(a, b, strict=True) of two sequences of one length -/
def ItzS (K : PySem.W.Frag) (k1 k2 : Bool) (a b : Addr) : It :=
  ⟨fun i H => ∃ (xs ys : List V), SqK K H k1 a xs ∧ SqK K H k2 b ys ∧ xs.length = ys.length ∧ i < xs.length,
    fun i H v H' => ∃ T x y, v = .ref T ∧ H T = none ∧ H' = upd H T (.tup [x, y]) ∧ (∀ xs, SqK K H k1 a xs → xs[i]? = some x) ∧ ∀ ys, SqK K H k2 b ys → ys[i]? = some y,
    fun i H => ∃ xs ys : List V, SqK K H k1 a xs ∧ SqK K H k2 b ys ∧ xs.length = i ∧ ys.length = i⟩
def tnS (k1 k2 : Bool) (a b z TI TO i1 i2 : Addr) (i : Nat) (h : Heap) : Prop := Zst h z TI TO .none ∧ IsTupOf2 h TI (.ref i1) (.ref i2) ∧ (∃ x y, IsTupOf2 h TO x y) ∧ ItO h k1 i1 a i ∧ ItO h k2 i2 b i
structure Apart (z TI TO i1 i2 a b : Addr) : Prop where
  sep : ZipSep2 z TI TO i1 i2 [i1, a] [i2, b]
  a1 : a ≠ i1
  b2 : b ≠ i2
theorem apart_of {N a b : Addr} (ha : a < N) (hb : b < N) : Apart (N + 4) (N + 2) (N + 3) N (N + 1) a b :=
  ⟨zip_sep2 (fp1 := [a]) (fp2 := [b]) (fun c hc => by simp at hc; rw [hc]; exact ha) (fun c hc => by simp at hc; rw [hc]; exact hb), Nat.ne_of_lt ha, Nat.ne_of_lt (Nat.lt_succ_of_lt hb)⟩
theorem turn_S {P : Program} {w : World} {K : PySem.W.Frag} {elts : List Expr} {kk : Nat} {tpos : Pos} {k1 k2 : Bool} {a b z TI TO i1 i2 : Addr} (D : Apart z TI TO i1 i2 a b) :
    Turn P w K (.Tuple elts kk tpos) (ItzS K k1 k2 a b) [z, TI, TO, i1, i2] z (tnS k1 k2 a b z TI TO i1 i2) where
  mem := List.mem_cons_self ..
  obj := fun i h st c hc => by
    obtain ⟨hz, hTI, ⟨x, y, hTO⟩, h1, h2⟩ := st
    simp only [List.mem_cons, List.not_mem_nil, or_false] at hc
    rcases hc with q | q | q | q | q
    · rw [q]; exact ⟨_, hz, nofun⟩
    · rw [q]; exact ⟨_, hTI, nofun⟩
    · rw [q]; exact ⟨_, hTO, nofun⟩
    · rw [q]; exact h1.obj
    · rw [q]; exact h2.obj
  keep := fun i h h' st k => by
    obtain ⟨hz, hTI, ⟨x, y, hTO⟩, h1, h2⟩ := st
    exact ⟨k z (by simp) _ hz, k TI (by simp) _ hTI, ⟨x, y, k TO (by simp) _ hTO⟩, h1.at fun o q => k i1 (by simp) o q, h2.at fun o q => k i2 (by simp) o q⟩
  item := by
    intro X hP hw hK hc i pins s σ H E I hf st hg
    subst hP hw hK
    obtain ⟨hz, hTI, ⟨x0, y0, hTO⟩, h1, h2⟩ := st
    obtain ⟨xs, ys, hqx, hqy, hl, hi⟩ := hg
    obtain ⟨its, rv, p, _⟩ := seqK I hqx
    obtain ⟨its2, rv2, p2, _⟩ := seqK I hqy
    have l1 := rv.length
    have l2 := rv2.length
    have hzl : z < s.heap.objs.size := Heap.lt_size hz
    have n2 : its2.toArray.size = its.toArray.size := by simp; omega
    have hh : X.A.in1.handled = none := I.ok.hd hc
    have d1 := draws_K (prog := X.prog) (w := X.w) hh k1 i1 a D.a1 its.toArray
    have d2 := draws_K (prog := X.prog) (w := X.w) hh k2 i2 b D.b2 its2.toArray
    rw [n2] at d2
    refine pyNext_item D.sep d1 d2 hz hTI hTO ⟨h1, p⟩ ⟨h2, p2⟩ (by simp; omega) fun u u2 h' tk hu hu2 z' TO' m1 m2 hT hsz hk => ?_
    obtain ⟨x, hx, ru⟩ := Vals.got rv (by simpa using hu)
    obtain ⟨y, hy, ru2⟩ := Vals.got rv2 (by simpa using hu2)
    refine ⟨_, rfl, letGo (s := { s with heap := h', toks := tk }) z' fun h'' z'' sb => ?_⟩
    have hT2 : h''.get? s.heap.objs.size = some { cls := .type "tuple", data := .seq #[u, u2] } := (sb.2 _ (Nat.ne_of_gt hzl)).trans hT
    have new : ObjOk X.prog X.w (upd H s.heap.objs.size (.tup [x, y])) h'' s.heap.objs.size (.tup [x, y]) := ⟨by show 2 ≤ sizeLine; decide, [u, u2], .cons ru (.cons ru2 .nil), ⟨_, hT2, rfl, _, rfl⟩⟩
    have I1 : Inv X pins σ (upd H s.heap.objs.size (.tup [x, y])) { s with heap := h'', toks := tk } :=
      I.turnedNew (t' := tk) (ch := [z, TI, TO, i1, i2]) (fun c o hb q => by
        simp only [List.mem_cons, List.not_mem_nil, or_false, not_or] at hb
        exact (sb.2 c hb.1).trans (hk c o hb.1 hb.2.2.1 hb.2.2.2.1 hb.2.2.2.2 q)) hf (Nat.le_refl _) new
    refine ⟨.ref s.heap.objs.size, _, I1, rfl, ⟨_, x, y, rfl, I.hok.fresh (Nat.le_refl _), rfl, fun l hl => by rw [seqK_inj I hl hqx]; exact hx, fun l hl => by rw [seqK_inj I hl hqy]; exact hy⟩, ⟨z'', ?_, ⟨u, u2, (sb.2 _ D.sep.TOz).trans TO'⟩, m1.1.at fun o q => (sb.2 _ D.sep.zi1.symm).trans q, m2.1.at fun o q => (sb.2 _ D.sep.zi2.symm).trans q⟩, fun c hcm => ?_⟩
    · exact (sb.2 _ D.sep.TIz).trans (hk _ _ D.sep.TIz D.sep.TITO D.sep.TIi1 D.sep.TIi2 hTI)
    · have hlt : c < s.heap.objs.size := by
        simp only [List.mem_cons, List.not_mem_nil, or_false] at hcm
        rcases hcm with q | q | q | q | q
        · rw [q]; exact hzl
        · rw [q]; exact Heap.lt_size hTI
        · rw [q]; exact Heap.lt_size hTO
        · rw [q]; obtain ⟨_, e1, _⟩ := h1.obj; exact Heap.lt_size e1
        · rw [q]; obtain ⟨_, e2, _⟩ := h2.obj; exact Heap.lt_size e2
      rw [upd_ne (Nat.ne_of_lt hlt)]
      exact (hf c hcm).1
  done := by
    intro X hP hw hK hc i pins s σ H E I hf st hg
    subst hP hw hK
    obtain ⟨hz, hTI, ⟨x0, y0, hTO⟩, h1, h2⟩ := st
    obtain ⟨xs, ys, hqx, hqy, e1, e2⟩ := hg
    obtain ⟨its, rv, p, _⟩ := seqK I hqx
    obtain ⟨its2, rv2, p2, _⟩ := seqK I hqy
    have l1 := rv.length
    have l2 := rv2.length
    have n1 : its.toArray.size = i := by simp; omega
    have n2 : its2.toArray.size = i := by simp; omega
    have hh : X.A.in1.handled = none := I.ok.hd hc
    have d1 := draws_K (prog := X.prog) (w := X.w) hh k1 i1 a D.a1 its.toArray
    have d2 := draws_K (prog := X.prog) (w := X.w) hh k2 i2 b D.b2 its2.toArray
    rw [n1] at d1
    rw [n2] at d2
    exact pyNext_end (I.ok.hd hc) D.sep d1 d2 hz hTI hTO ⟨h1, p⟩ ⟨h2, p2⟩ fun h' hk =>
      ⟨rfl, I.turnedL (t' := s.toks) (ch := [z, TI, TO, i1, i2]) (fun c o hb q => by
        simp only [List.mem_cons, List.not_mem_nil, or_false, not_or] at hb
        exact hk c o hb.1 hb.2.2.1 hb.2.2.2.1 hb.2.2.2.2 q) hf⟩
  self := fun A i s Q E st h => self_iter st.1 h
end ZS
namespace ZS
open PySem PySem.Spec PyProof.Rows L2
theorem callWith_tyKw {M : Model} {A : Around} {E : Value → Shared → Prop} {s : Shared} {pos : Pos} {T : String} {first : List Value} {args : List (Bool × Sem Value)} {kws : List (Option Str × Sem Value)} {Q : Value → Shared → Prop}
    (hp : (args.any (·.1) || kws.any (·.1.isNone)) = false) (h : wpAny M A (evalArgs (.type T) true args kws) (fun a s1 => wpAny M A (call (.type T) (first ++ a.pos) a.kw) Q E s1) E s) : wpAny M A (callWith pos (.type T) first args kws) Q E s := by
  unfold callWith
  refine wpAny_bind (wpAny_holding (wpAny_mono h (fun a s1 h1 => wpAny_bind (wpAny_standAt ?_)) fun _ _ x => x))
  simp only [hp]
  refine wpAny_bind (wpAny_pure (wpAny_bind (wpAny_mono h1 (fun r s2 hr => wpAny_bind (wpAny_holding (wpAny_point (wpAny_pure hr)))) fun _ _ x => x)))
def iZipS (K : PySem.W.Frag) (ta : TA) : TI := fun σ H R => ta σ H fun vs H1 => ∃ k1 k2 a b xs ys, vs = [.ref a, .ref b] ∧ SqK K H1 k1 a xs ∧ SqK K H1 k2 b ys ∧ R (ItzS K k1 k2 a b) H1
theorem pi_zipS {X : Cx} {e e2 : Expr} {ta : TA} {p pos tpos kp cp : Pos} {elts : List Expr} {kk j : Nat} {nm : Str} (hg : Gl X "zip") (hm : X.mg "zip" = none) (ha : PA X [e, e2] ta) (hnm : nm = Str.ofString "strict" := by rfl)
    (hs : starEach [e, e2] X.env = (false, eval e X.env) :: starEach [e2] X.env := by rfl) (hpl : ((backTo pos (starEach [e, e2] X.env)).any (·.1) || (backToKw pos (keywordEach [⟨some nm, .Constant (.bool true) j cp, kp⟩] X.env)).any (·.1.isNone)) = false := by rfl) :
    PI X (.Tuple elts kk tpos) (.Call (.Name "zip" p) [e, e2] [⟨some nm, .Constant (.bool true) j cp, kp⟩] pos) (iZipS X.K ta) := by
  subst hnm
  refine ⟨fun pins s σ H R I h => ?_⟩
  refine wpAny_Call_Name_kw (ld_blt I hg hm PyProof.Rows.boot_zip (callWith_tyKw hpl (evalArgs_kw2 (by rfl) (thn (ha.run pos pins s σ H _ I h) fun us s1 ⟨vs, H1, I1, r1, q1⟩ => ?_) hs)))
  obtain ⟨k1, k2, a, b, xs, ys, ex, hqx, hqy, q⟩ := q1
  subst ex
  have ek := (pk_cons (nm := some (Str.ofString "strict")) (kpos := kp) (pe_bl (X := X) (b := true) (j := j) (pos := cp)) pk_nil).run pos pins s1 σ H1 (fun vs H' => vs = [.bl true] ∧ H' = H1) I1 ⟨rfl, rfl⟩
  refine thn ek fun ws s2 ⟨zs, H2, I2, rz, ez, eh⟩ => ?_
  subst ez eh
  cases r1 with
  | cons r rr =>
    cases rr with
    | cons r' rr =>
      cases rr; cases r; cases r'
      cases rz with
      | cons rz1 rz2 =>
        cases rz2; cases rz1
        obtain ⟨its, rv, p1, la⟩ := seqK I2 hqx
        obtain ⟨its2, rv2, p2, lb⟩ := seqK I2 hqy
        refine begins (begins_K k1 a its.toArray) (begins_K k2 b its2.toArray) p1 p2 fun h' hz hTI hTO h1 h2 hsz hk => self_iter hz ?_
        have I3 : Inv X pins σ H2 { s2 with heap := h' } := I2.kept (t' := s2.toks) hk
        refine ⟨s2.heap.objs.size + 4, [s2.heap.objs.size + 4, s2.heap.objs.size + 2, s2.heap.objs.size + 3, s2.heap.objs.size, s2.heap.objs.size + 1], _, _, H2, rfl, I3, turn_S (apart_of la lb), ⟨hz, hTI, ⟨_, _, hTO⟩, .beg h1, .beg h2⟩, fun c hcm => ?_, q⟩
        have hle : s2.heap.objs.size ≤ c := by
          simp only [List.mem_cons, List.not_mem_nil, or_false] at hcm
          rcases hcm with z | z | z | z | z
          · rw [z]; exact Nat.le_add_right _ _
          · rw [z]; exact Nat.le_add_right _ _
          · rw [z]; exact Nat.le_add_right _ _
          · rw [z]; exact Nat.le_refl _
          · rw [z]; exact Nat.le_add_right _ _
        exact I2.fpOk hle (I2.hok.fresh hle)
end ZS
end
section
set_option Elab.async false
set_option linter.all false
set_option maxRecDepth 100000
set_option maxHeartbeats 4000000
/-! enumerate(seq) of a list or a tuple -/
namespace ZS
open PySem PySem.Spec PyProof.Rows L2
theorem meets_enum {v : Value} {o : Obj} {H1 : Heap → Prop} (B : Begins v o H1) (notInt : True) :
    Meets (Builtin.«enumerate.__new__» ⟨[.type "enumerate", v], []⟩) (fun _ R s => H1 s.heap ∧ R (.ok (.ret (.ref (s.heap.push o).objs.size))) { s with heap := (s.heap.push o).push { cls := .type "enumerate", data := .fields #[.none, .bool false, .ref s.heap.objs.size, rawInt 0, .none, .none] } }) :=
  .of_wp fun prog w A R s h => by
    obtain ⟨hp, g, d, tk, os⟩ := s
    obtain ⟨h1, h⟩ := h
    have hsub := sub_enumerate
    have r1 : ∀ {A' : Around} {E : Value → Shared → Prop} {Q : Value → Shared → Prop}, Q (.ref hp.objs.size) ⟨hp.push o, g, d, tk, os⟩ → wpAny (model prog w) A' (pyIter v) Q E ⟨hp, g, d, tk, os⟩ := fun q => B.iter prog w _ _ ⟨hp, g, d, tk, os⟩ _ h1 q
    wp_walk using r1
    refine wpAny_stack_any fun st => wpAny_pure ?_
    split
    · rename_i c _ _ _ _ _
      cases hc : (c == Value.type "enumerate") <;> (wp_walk using r1; exact ⟨_, rfl, h⟩)
    · wp_walk using r1
      exact ⟨_, rfl, h⟩
section
variable {prog : Program} {w : World} {A : Around} {E : Value → Shared → Prop} {s : Shared}
theorem enum1 {v : Value} {o : Obj} {H1 : Heap → Prop} {Q : Value → Shared → Prop} (B : Begins v o H1) (h1 : H1 s.heap)
    (h : ∀ h', IsEnum h' (s.heap.objs.size + 1) s.heap.objs.size 0 .none → h'.get? s.heap.objs.size = some o → h'.objs.size = s.heap.objs.size + 2 → (∀ b o, s.heap.get? b = some o → h'.get? b = some o) → Q (.ref (s.heap.objs.size + 1)) { s with heap := h' }) :
    wpAny (model prog w) A (call (.type "enumerate") [v]) Q E s := by
  refine callType_new PySem.F.called_enumerate (by decide) (PySem.F.typeCall_enumerate_1 _) (PySem.F.newCall_enumerate_1 _) (fun obj => PySem.F.args_object_init_2 obj _) PySem.F.entry_enumerate_new (meets_enum B trivial) ⟨h1, ?_⟩
  have hz : (s.heap.push o).objs.size = s.heap.objs.size + 1 := Heap.size_push ..
  have he : IsEnum ((s.heap.push o).push { cls := .type "enumerate", data := .fields #[.none, .bool false, .ref s.heap.objs.size, rawInt 0, .none, .none] }) (s.heap.push o).objs.size s.heap.objs.size 0 .none := Heap.get?_push_size _ rfl
  rw [hz] at he
  show _ ∧ _
  rw [hz]
  exact ⟨⟨_, he, rfl⟩, h _ he (Heap.get?_push_of_some _ (Heap.get?_push_size _ B.free)) (by rw [Heap.size_push, hz]) fun b o x => Heap.get?_push_of_some _ (Heap.get?_push_of_some _ x)⟩
end
/-- the sequence at a, each item in a new pair -/
def IteK (K : PySem.W.Frag) (k : Bool) (a : Addr) : It :=
  ⟨fun i H => ∃ xs, SqK K H k a xs ∧ i < xs.length, fun i H v H' => ∃ T x, v = .ref T ∧ H T = none ∧ H' = upd H T (.tup [.int (i : Nat), x]) ∧ ∀ xs, SqK K H k a xs → xs[i]? = some x, fun i H => ∃ xs, SqK K H k a xs ∧ xs.length = i⟩
theorem turn_enumK {P : Program} {w : World} {K : PySem.W.Frag} {elts : List Expr} {kk : Nat} {tpos : Pos} {k : Bool} {a e it : Addr} (hne : e ≠ it) (hea : e ≠ a) (hai : a ≠ it) :
    Turn P w K (.Tuple elts kk tpos) (IteK K k a) [e, it] e (fun i h => (∃ old, IsEnum h e it ((i : Nat) : Int) old) ∧ ItO h k it a i) where
  mem := List.mem_cons_self ..
  obj := fun i h st b hb => by
    obtain ⟨⟨old, he⟩, hi⟩ := st
    simp only [List.mem_cons, List.not_mem_nil, or_false] at hb
    rcases hb with z | z
    · rw [z]; exact ⟨_, he, nofun⟩
    · rw [z]; exact hi.obj
  keep := fun i h h' st k => let ⟨⟨old, he⟩, hi⟩ := st; ⟨⟨old, k e (by simp) _ he⟩, hi.at fun o q => k it (by simp) o q⟩
  item := by
    intro X hP hw hK hc i pins s σ H E I hf st hg
    subst hP hw hK
    obtain ⟨⟨old, he⟩, hit⟩ := st
    obtain ⟨xs, hq, hi⟩ := hg
    obtain ⟨its, rv, p, _⟩ := seqK I hq
    have l1 := rv.length
    have hh : X.A.in1.handled = none := I.ok.hd hc
    have hel : e < s.heap.objs.size := Heap.lt_size he
    have hil : it < s.heap.objs.size := by obtain ⟨_, q, _⟩ := hit.obj; exact Heap.lt_size q
    refine wpAny_pyNext_enum_itemC (draws_K (prog := X.prog) (w := X.w) hh k it a hai its.toArray) he ⟨hit, p⟩ (by simp; omega) hne (by simp [hne, hea]) fun u h' tk hu ho hit' hT hsz hk => ?_
    obtain ⟨x, hx, ru⟩ := Vals.got rv (by simpa using hu)
    refine ⟨_, rfl, wpAny_letOwnedTupleGo_enum (s := { s with heap := h', toks := tk + 1 }) ho fun h'' he' sb => ?_⟩
    have hT2 : h''.get? s.heap.objs.size = some { cls := .type "tuple", data := .seq #[.int i tk, u] } := (sb.2 _ (Nat.ne_of_gt hel)).trans hT
    have new : ObjOk X.prog X.w (upd H s.heap.objs.size (.tup [.int (i : Nat), x])) h'' s.heap.objs.size (.tup [.int (i : Nat), x]) := ⟨by show 2 ≤ sizeLine; decide, [.int i tk, u], .cons ⟨_, rfl⟩ (.cons ru .nil), ⟨_, hT2, rfl, _, rfl⟩⟩
    have I1 : Inv X pins σ (upd H s.heap.objs.size (.tup [.int (i : Nat), x])) { s with heap := h'', toks := tk + 1 } :=
      I.turnedNew (ch := [e, it]) (fun b ob hb q => by
        simp only [List.mem_cons, List.not_mem_nil, or_false, not_or] at hb
        exact (sb.2 b hb.1).trans (hk b ob hb.1 hb.2 q)) hf (Nat.le_refl _) new
    refine ⟨.ref s.heap.objs.size, _, I1, rfl, ⟨_, x, rfl, I.hok.fresh (Nat.le_refl _), rfl, fun ys hy => by rw [seqK_inj I hy hq]; exact hx⟩, ⟨⟨u, ?_⟩, hit'.1.at fun o q => (sb.2 it (Ne.symm hne)).trans q⟩, fun b hb => ?_⟩
    · have e1 : ((i + 1 : Nat) : Int) = (i : Int) + 1 := by omega
      rw [e1]; exact he'
    · have hb' : b < s.heap.objs.size := by
        simp only [List.mem_cons, List.not_mem_nil, or_false] at hb
        rcases hb with z | z
        · rw [z]; exact hel
        · rw [z]; exact hil
      rw [upd_ne (Nat.ne_of_lt hb')]
      exact (hf b hb).1
  done := by
    intro X hP hw hK hc i pins s σ H E I hf st hg
    subst hP hw hK
    obtain ⟨⟨old, he⟩, hit⟩ := st
    obtain ⟨xs, hq, hi⟩ := hg
    obtain ⟨its, rv, p, _⟩ := seqK I hq
    have l1 := rv.length
    have hh : X.A.in1.handled = none := I.ok.hd hc
    have n1 : its.toArray.size = i := by simp; omega
    have d1 := draws_K (prog := X.prog) (w := X.w) hh k it a hai its.toArray
    rw [n1] at d1
    obtain ⟨f0, f1, f2, f3, f4, f5⟩ := hf it (by simp)
    exact wpAny_pyNext_enum_endD d1 he ⟨hit, p⟩ fun h' eb => ⟨rfl, I.turned (t' := s.toks) (fun b o hb q => eb b o hb q) f0 f1 f3 f4 f5⟩
  self := fun A i s Q E st h => let ⟨⟨_, he⟩, _⟩ := st; wpAny_pyIter_enum he h
def iEnumK (K : PySem.W.Frag) (ta : TA) : TI := fun σ H R => ta σ H fun vs H1 => ∃ k a xs, vs = [.ref a] ∧ SqK K H1 k a xs ∧ R (IteK K k a) H1
theorem pi_enumK {X : Cx} {e : Expr} {ta : TA} {p pos tpos : Pos} {elts : List Expr} {kk : Nat} (hg : Gl X "enumerate") (hm : X.mg "enumerate" = none) (ha : PA X [e] ta) (hs : starEach [e] X.env = [(false, eval e X.env)] := by rfl) :
    PI X (.Tuple elts kk tpos) (.Call (.Name "enumerate" p) [e] [] pos) (iEnumK X.K ta) := by
  refine ⟨fun pins s σ H R I h => Call_ (ld_blt I hg hm boot_enumerate (PyProof.Rows.callWith_type1 (thn (ha.run pos pins s σ H _ I h) fun us s1 ⟨vs, H1, I1, r1, q1⟩ => ?_) hs rfl))⟩
  obtain ⟨k, a, xs, ex, hq, q⟩ := q1
  subst ex
  cases r1 with
  | cons r rr =>
    cases rr; cases r
    obtain ⟨its, rv, p', la⟩ := seqK I1 hq
    refine enum1 (begins_K k a its.toArray) p' fun h' he hit hsz hk => wpAny_pyIter_enum he ?_
    have I2 : Inv X pins σ H1 { s1 with heap := h' } := I1.kept (t' := s1.toks) hk
    refine ⟨s1.heap.objs.size + 1, [s1.heap.objs.size + 1, s1.heap.objs.size], _, _, H1, rfl, I2, turn_enumK (Nat.succ_ne_self _) (Nat.ne_of_gt (Nat.lt_succ_of_lt la)) (Nat.ne_of_lt la), ⟨⟨.none, he⟩, .beg hit⟩, fun b hb => ?_, q⟩
    have hle : s1.heap.objs.size ≤ b := by
      simp only [List.mem_cons, List.not_mem_nil, or_false] at hb
      rcases hb with z | z
      · rw [z]; exact Nat.le_add_right _ _
      · rw [z]; exact Nat.le_refl _
    exact I1.fpOk hle (I1.hok.fresh hle)
end ZS
end
section
set_option Elab.async false
set_option linter.all false
set_option maxRecDepth 100000
set_option maxHeartbeats 2000000
namespace Pu
open PySem PySem.Spec L2

/-! ### what is iterated -/
/-- J goes through its, as long as the slots in g hold what they held -/
structure ItD (K : PySem.W.Frag) (J : It) (its : List PyData) (env1 : List Sv) (g : List Nat) (H0 : Hp) : Prop where
  go : ∀ i envx σx H0' H' Fx, Sl K envx σx H0' H' Fx → (∀ j ∈ g, envx[j]? = env1[j]?) → Same H0 H0' → i < its.length → J.go i H'
  stop : ∀ envx σx H0' H' Fx, Sl K envx σx H0' H' Fx → (∀ j ∈ g, envx[j]? = env1[j]?) → Same H0 H0' → J.stop its.length H'
  yld : ∀ i d envx σx H0' H' Fx x H2, Sl K envx σx H0' H' Fx → (∀ j ∈ g, envx[j]? = env1[j]?) → Same H0 H0' → its[i]? = some d → J.yld i H' x H2 → ∃ H02, New H0' H' H02 H2 ∧ Dq K H02 x d
/-- by what is shared alone -/
structure ItD0 (K : PySem.W.Frag) (J : It) (its : List PyData) (H0 : Hp) : Prop where
  go : ∀ i H0' H', Same H0 H0' → Same H0' H' → i < its.length → J.go i H'
  stop : ∀ H0' H', Same H0 H0' → Same H0' H' → J.stop its.length H'
  yld : ∀ i d H0' H' x H2, Same H0 H0' → Same H0' H' → its[i]? = some d → J.yld i H' x H2 → ∃ H02, New H0' H' H02 H2 ∧ Dq K H02 x d
theorem ItD0.up {K : PySem.W.Frag} {J : It} {its : List PyData} {H0 : Hp} (h : ItD0 K J its H0) {env1 : List Sv} {g : List Nat} : ItD K J its env1 g H0 :=
  ⟨fun i _ _ _ _ _ S _ e => h.go i _ _ e S.ex, fun _ _ _ _ _ S _ e => h.stop _ _ e S.ex, fun i d _ _ _ _ _ x H2 S _ e => h.yld i d _ _ x H2 e S.ex⟩
structure IV (X : Cx) (env : List Sv) (tg it : Expr) (its : List PyData) (env' : List Sv) (pu : Bool) (g : List Nat) : Prop where
  run : ∃ wi, PI X tg it wi ∧ ∀ σ H0 H F (R : It → Hp → Prop), Sl X.K env σ H0 H F → (∀ J H0' H' F', Bnd X.K env' σ H0 H F pu H0' H' F' → ItD X.K J its env' g H0' → R J H') → wi σ H R
inductive IsSeq : PyData → List PyData → Prop
  | l (ds : List PyData) : IsSeq (.list ds) ds
  | t (ds : List PyData) : IsSeq (.tuple ds) ds
section
variable {X : Cx} {env env1 env2 env' : List Sv} {tg a b e : Expr} {d da db : PyData} {ds es' its : List PyData} {pos p tpos : Pos} {p1 p2 : Bool} {i j : Int} {K : PySem.W.Frag} {H H0 H0' H' : Hp}
theorem IV.to {g : List Nat} (h : IV X env tg a its env1 p1 g) {its' : List PyData} (e : its = its') : IV X env tg a its' env1 p1 g := e ▸ h
theorem IsSeq.k {v : V} (h : IsSeq d ds) (hd : Dq K H v d) : ∃ k a xs, v = .ref a ∧ ZS.SqK K H k a xs ∧ DqAll K H xs ds := by
  cases h with
  | l => cases hd with | lst h1 h2 => exact ⟨false, _, _, rfl, SqL.of h1, h2⟩
  | t => cases hd with | tup h1 h2 => exact ⟨true, _, _, rfl, h1, h2⟩
theorem sameL (e : Same H H') {a : Addr} {xs : List V} (h : SqL K H a xs) : SqL K H' a xs := by
  rcases h with (h | ⟨o, h⟩) | h
  · exact .inl (.inl (e _ _ h))
  · exact .inl (.inr ⟨o, e _ _ h⟩)
  · exact .inr h
theorem sameK (e : Same H H') {k : Bool} {a : Addr} {xs : List V} (h : ZS.SqK K H k a xs) : ZS.SqK K H' k a xs := by
  cases k with
  | true => exact sameT e h
  | false => exact sameL e h
theorem itd_list {a : Addr} {xs : List V} (h : SqL K H0 a xs) (hd : DqAll K H0 xs ds) : ItD0 K (Itl K a) ds H0 where
  go := fun i H0' H' e e' hi => by
    obtain ⟨v, hv, _⟩ := da_at hd (List.getElem?_eq_getElem hi)
    exact ⟨xs, v, sameL e' (sameL e h), hv⟩
  stop := fun H0' H' e e' => ⟨xs, sameL e' (sameL e h), by rw [da_len hd]; exact Nat.le_refl _⟩
  yld := fun i d H0' H' x H2 e e' hi y => by
    obtain ⟨z, y⟩ := y
    subst z
    obtain ⟨v, hv, dv⟩ := da_at hd hi
    have := y xs (sameL e' (sameL e h))
    rw [hv] at this
    cases this
    exact ⟨H0', .refl e', DqM dv e⟩
theorem itd_tup {a : Addr} {xs : List V} (h : SqT K H0 a xs) (hd : DqAll K H0 xs ds) : ItD0 K (Itt K a) ds H0 where
  go := fun i H0' H' e e' hi => by
    obtain ⟨v, hv, _⟩ := da_at hd (List.getElem?_eq_getElem hi)
    exact ⟨xs, v, sameT e' (sameT e h), hv⟩
  stop := fun H0' H' e e' => ⟨xs, sameT e' (sameT e h), by rw [da_len hd]; exact Nat.le_refl _⟩
  yld := fun i d H0' H' x H2 e e' hi y => by
    obtain ⟨z, y⟩ := y
    subst z
    obtain ⟨v, hv, dv⟩ := da_at hd hi
    have := y xs (sameT e' (sameT e h))
    rw [hv] at this
    cases this
    exact ⟨H0', .refl e', DqM dv e⟩
theorem itd_rng {lo : Int} {n : Nat} : ItD0 K (Itr lo n) ((List.range n).map fun k => .int (lo + (k : Nat))) H0 where
  go := fun i H0' H' e e' hi => by show i < n; simpa using hi
  stop := fun H0' H' e e' => by simp [Itr]
  yld := fun i d H0' H' x H2 e e' hi y => by
    obtain ⟨z, y⟩ := y
    subst z y
    have hi' : i < n := by
      have := (List.getElem?_eq_some_iff.mp hi).1
      simpa using this
    rw [List.getElem?_map, List.getElem?_range hi'] at hi
    simp at hi
    subst hi
    exact ⟨H0', .refl e', .int _⟩
theorem pair_new {T : Addr} {x y : V} {dx dy : PyData} (e : Same H0 H) (hT : H T = none) (hx : Dq K H0 x dx) (hy : Dq K H0 y dy) : ∃ H02, New H0 H H02 (upd H T (.tup [x, y])) ∧ Dq K H02 (.ref T) (.tuple [dx, dy]) :=
  have e1 : Same H0 (upd H0 T (.tup [x, y])) := same_upd (same_none e hT) _
  ⟨_, .laid e hT _, .tup (SqT.of upd_same) (.cons (DqM hx e1) (.cons (DqM hy e1) .nil))⟩
theorem itd_zipS {k1 k2 : Bool} {a b : Addr} {xs ys : List V} (h1 : ZS.SqK K H0 k1 a xs) (h2 : ZS.SqK K H0 k2 b ys) (d1 : DqAll K H0 xs ds) (d2 : DqAll K H0 ys es') (hl : ds.length = es'.length) :
    ItD0 K (ZS.ItzS K k1 k2 a b) (List.zipWith (fun x y => .tuple [x, y]) ds es') H0 where
  go := fun i H0' H' e e' hi => ⟨xs, ys, sameK e' (sameK e h1), sameK e' (sameK e h2), by rw [da_len d1, da_len d2, hl], by rw [da_len d1]; simp at hi; omega⟩
  stop := fun H0' H' e e' => ⟨xs, ys, sameK e' (sameK e h1), sameK e' (sameK e h2), by rw [da_len d1]; simp; omega, by rw [da_len d2]; simp; omega⟩
  yld := fun i d H0' H' x H2 e e' hi y => by
    obtain ⟨T, u, u2, rfl, hT, rfl, f1, f2⟩ := y
    have g1 := f1 xs (sameK e' (sameK e h1))
    have g2 := f2 ys (sameK e' (sameK e h2))
    obtain ⟨z1, hz1, q1⟩ := da_at' d1 g1
    obtain ⟨z2, hz2, q2⟩ := da_at' d2 g2
    rw [List.getElem?_zipWith, hz1, hz2] at hi
    simp at hi
    subst hi
    exact pair_new e' hT (DqM q1 e) (DqM q2 e)
theorem itd_zipL {a b : Addr} {xs ys : List V} (h1 : SqL K H0 a xs) (h2 : SqL K H0 b ys) (d1 : DqAll K H0 xs ds) (d2 : DqAll K H0 ys es') :
    ItD0 K (Itz K a b) (List.zipWith (fun x y => .tuple [x, y]) ds es') H0 where
  go := fun i H0' H' e e' hi => by
    simp at hi
    obtain ⟨v, hv, _⟩ := da_at d1 (List.getElem?_eq_getElem (show i < ds.length by omega))
    obtain ⟨v2, hv2, _⟩ := da_at d2 (List.getElem?_eq_getElem (show i < es'.length by omega))
    exact ⟨xs, ys, v, v2, sameL e' (sameL e h1), sameL e' (sameL e h2), hv, hv2⟩
  stop := fun H0' H' e e' => ⟨xs, ys, sameL e' (sameL e h1), sameL e' (sameL e h2), by rw [da_len d1, da_len d2]; simp; omega⟩
  yld := fun i d H0' H' x H2 e e' hi y => by
    obtain ⟨T, u, u2, rfl, hT, rfl, f1, f2⟩ := y
    have g1 := f1 xs (sameL e' (sameL e h1))
    have g2 := f2 ys (sameL e' (sameL e h2))
    obtain ⟨z1, hz1, q1⟩ := da_at' d1 g1
    obtain ⟨z2, hz2, q2⟩ := da_at' d2 g2
    rw [List.getElem?_zipWith, hz1, hz2] at hi
    simp at hi
    subst hi
    exact pair_new e' hT (DqM q1 e) (DqM q2 e)
theorem itd_zipT {a b : Addr} {xs ys : List V} (h1 : SqT K H0 a xs) (h2 : SqT K H0 b ys) (d1 : DqAll K H0 xs ds) (d2 : DqAll K H0 ys es') :
    ItD0 K (RZ.ItzT K a b) (List.zipWith (fun x y => .tuple [x, y]) ds es') H0 where
  go := fun i H0' H' e e' hi => by
    simp at hi
    obtain ⟨v, hv, _⟩ := da_at d1 (List.getElem?_eq_getElem (show i < ds.length by omega))
    obtain ⟨v2, hv2, _⟩ := da_at d2 (List.getElem?_eq_getElem (show i < es'.length by omega))
    exact ⟨xs, ys, v, v2, sameT e' (sameT e h1), sameT e' (sameT e h2), hv, hv2⟩
  stop := fun H0' H' e e' => ⟨xs, ys, sameT e' (sameT e h1), sameT e' (sameT e h2), by rw [da_len d1, da_len d2]; simp; omega⟩
  yld := fun i d H0' H' x H2 e e' hi y => by
    obtain ⟨T, u, u2, rfl, hT, rfl, f1, f2⟩ := y
    have g1 := f1 xs (sameT e' (sameT e h1))
    have g2 := f2 ys (sameT e' (sameT e h2))
    obtain ⟨z1, hz1, q1⟩ := da_at' d1 g1
    obtain ⟨z2, hz2, q2⟩ := da_at' d2 g2
    rw [List.getElem?_zipWith, hz1, hz2] at hi
    simp at hi
    subst hi
    exact pair_new e' hT (DqM q1 e) (DqM q2 e)
theorem itd_enum {k : Bool} {a : Addr} {xs : List V} (h1 : ZS.SqK K H0 k a xs) (d1 : DqAll K H0 xs ds) :
    ItD0 K (ZS.IteK K k a) (ds.mapIdx fun i x => .tuple [.int (i : Nat), x]) H0 where
  go := fun i H0' H' e e' hi => ⟨xs, sameK e' (sameK e h1), by rw [da_len d1]; simpa using hi⟩
  stop := fun H0' H' e e' => ⟨xs, sameK e' (sameK e h1), by rw [da_len d1]; simp⟩
  yld := fun i d H0' H' x H2 e e' hi y => by
    obtain ⟨T, u, rfl, hT, rfl, f1⟩ := y
    have g1 := f1 xs (sameK e' (sameK e h1))
    obtain ⟨z1, hz1, q1⟩ := da_at' d1 g1
    rw [List.getElem?_mapIdx, hz1] at hi
    simp at hi
    subst hi
    exact pair_new e' hT (.int _) (DqM q1 e)

theorem iv_list (h : EV X env e (.list ds) env1 p1) : IV X env tg e ds env1 p1 [] := ⟨_, pi_list pe_ev, fun σ H0 H F R S q => tEV.go h S fun v H01 H1 F1 b1 d1 => by
  cases d1 with
  | lst h1 h2 => exact ⟨_, rfl, ⟨_, SqL.of (b1.s.ex _ _ h1)⟩, q _ _ _ _ b1 (itd_list (SqL.of h1) h2).up⟩⟩
theorem iv_tup (h : EV X env e (.tuple ds) env1 p1) : IV X env tg e ds env1 p1 [] := ⟨_, pi_tup pe_ev, fun σ H0 H F R S q => tEV.go h S fun v H01 H1 F1 b1 d1 => by
  cases d1 with
  | tup h1 h2 => exact ⟨_, rfl, ⟨_, sameT b1.s.ex h1⟩, q _ _ _ _ b1 (itd_tup h1 h2).up⟩⟩
theorem iv_range1 (hm : X.mg "range" = none) (ha : EV X env a (.int j) env1 p1) (h0 : -(2 ^ 62) ≤ j) (h1 : j < 2 ^ 62) (hg : Gl X "range" := by rfl) (hs : starEach [a] X.env = [(false, eval a X.env)] := by rfl) :
    IV X env tg (.Call (.Name "range" p) [a] [] pos) ((List.range j.toNat).map fun k => .int (k : Nat)) env1 p1 [] :=
  ⟨_, pi_range1 hg hm pa_ea hs, fun σ H0 H F R S q => tEA.go (ea_cons ha ea_nil (by rw [hs]; rfl)) S fun vs H01 H1 F1 b1 d1 => by
    rw [Bool.and_true] at b1
    cases d1 with
    | cons x1 t1 =>
      cases t1; cases x1
      refine ⟨j, rfl, h0, h1, q _ _ _ _ b1 ?_⟩
      have := (itd_rng (K := X.K) (H0 := H01) (lo := 0) (n := j.toNat)).up (env1 := env1) (g := [])
      simpa using this⟩
theorem iv_range2 (hm : X.mg "range" = none) (ha : EV X env a (.int i) env1 p1) (hb : EV X env1 b (.int j) env2 p2) (h0 : -(2 ^ 62) ≤ i) (h1 : i < 2 ^ 62) (h2 : -(2 ^ 62) ≤ j) (h3 : j < 2 ^ 62) (hg : Gl X "range" := by rfl)
    (hs : starEach [a, b] X.env = [(false, eval a X.env), (false, eval b X.env)] := by rfl) (hs2 : starEach [b] X.env = [(false, eval b X.env)] := by rfl) :
    IV X env tg (.Call (.Name "range" p) [a, b] [] pos) ((List.range (j - i).toNat).map fun k => .int (i + (k : Nat))) env2 (p1 && p2) [] :=
  ⟨_, pi_range2 hg hm pa_ea hs hs2, fun σ H0 H F R S q => tEA.go (ea_cons ha (ea_cons hb ea_nil (by rw [hs2]; rfl)) (by rw [hs, hs2])) S fun vs H01 H1 F1 b1 d1 => by
    rw [Bool.and_true] at b1
    cases d1 with
    | cons x1 t1 => cases t1 with | cons x2 t2 => cases t2; cases x1; cases x2; exact ⟨i, j, rfl, ⟨h0, h1, h2, h3⟩, q _ _ _ _ b1 itd_rng.up⟩⟩
theorem iv_zipS {elts : List Expr} {kk jj : Nat} {nm : Str} {kp cp : Pos} (hm : X.mg "zip" = none) (ha : EV X env a da env1 p1) (hb : EV X env1 b db env2 p2) (sa : IsSeq da ds) (sb : IsSeq db es') (hl : ds.length = es'.length) (hg : Gl X "zip" := by rfl) (hnm : nm = Str.ofString "strict" := by rfl)
    (hs : starEach [a, b] X.env = (false, eval a X.env) :: starEach [b] X.env := by rfl) (hs2 : starEach [b] X.env = (false, eval b X.env) :: starEach [] X.env := by rfl)
    (hpl : ((backTo pos (starEach [a, b] X.env)).any (·.1) || (backToKw pos (keywordEach [⟨some nm, .Constant (.bool true) jj cp, kp⟩] X.env)).any (·.1.isNone)) = false := by rfl) :
    IV X env (.Tuple elts kk tpos) (.Call (.Name "zip" p) [a, b] [⟨some nm, .Constant (.bool true) jj cp, kp⟩] pos) (List.zipWith (fun x y => .tuple [x, y]) ds es') env2 (p1 && p2) [] :=
  ⟨_, ZS.pi_zipS hg hm pa_ea hnm hs hpl, fun σ H0 H F R S q => tEA.go (ea_cons ha (ea_cons hb ea_nil hs2) hs) S fun vs H01 H1 F1 b1 d1 => by
    rw [Bool.and_true] at b1
    cases d1 with
    | cons x1 t1 =>
      cases t1 with
      | cons x2 t2 =>
        cases t2
        obtain ⟨k1, a1, xs, rfl, q1, r1⟩ := sa.k x1
        obtain ⟨k2, a2, ys, rfl, q2, r2⟩ := sb.k x2
        exact ⟨k1, k2, a1, a2, xs, ys, rfl, sameK b1.s.ex q1, sameK b1.s.ex q2, q _ _ _ _ b1 (itd_zipS q1 q2 r1 r2 hl).up⟩⟩
theorem iv_zipL {elts : List Expr} {kk : Nat} (hm : X.mg "zip" = none) (ha : EV X env a (.list ds) env1 p1) (hb : EV X env1 b (.list es') env2 p2) (hg : Gl X "zip" := by rfl)
    (hs : starEach [a, b] X.env = (false, eval a X.env) :: starEach [b] X.env := by rfl) (hs2 : starEach [b] X.env = (false, eval b X.env) :: starEach [] X.env := by rfl) (hpl : (backTo pos (starEach [b] X.env)).any (·.1) = false := by rfl) :
    IV X env (.Tuple elts kk tpos) (.Call (.Name "zip" p) [a, b] [] pos) (List.zipWith (fun x y => .tuple [x, y]) ds es') env2 (p1 && p2) [] :=
  ⟨_, RZ.pi_zipA hg hm pa_ea hs hpl, fun σ H0 H F R S q => tEA.go (ea_cons ha (ea_cons hb ea_nil hs2) hs) S fun vs H01 H1 F1 b1 d1 => by
    rw [Bool.and_true] at b1
    cases d1 with
    | cons x1 t1 =>
      cases t1 with
      | cons x2 t2 =>
        cases t2
        cases x1 with
        | lst h1 g1 => cases x2 with | lst h2 g2 => exact ⟨_, _, _, _, rfl, .inl ⟨SqL.of (b1.s.ex _ _ h1), SqL.of (b1.s.ex _ _ h2), q _ _ _ _ b1 (itd_zipL (SqL.of h1) (SqL.of h2) g1 g2).up⟩⟩⟩
theorem iv_zipT {elts : List Expr} {kk : Nat} (hm : X.mg "zip" = none) (ha : EV X env a (.tuple ds) env1 p1) (hb : EV X env1 b (.tuple es') env2 p2) (hg : Gl X "zip" := by rfl)
    (hs : starEach [a, b] X.env = (false, eval a X.env) :: starEach [b] X.env := by rfl) (hs2 : starEach [b] X.env = (false, eval b X.env) :: starEach [] X.env := by rfl) (hpl : (backTo pos (starEach [b] X.env)).any (·.1) = false := by rfl) :
    IV X env (.Tuple elts kk tpos) (.Call (.Name "zip" p) [a, b] [] pos) (List.zipWith (fun x y => .tuple [x, y]) ds es') env2 (p1 && p2) [] :=
  ⟨_, RZ.pi_zipA hg hm pa_ea hs hpl, fun σ H0 H F R S q => tEA.go (ea_cons ha (ea_cons hb ea_nil hs2) hs) S fun vs H01 H1 F1 b1 d1 => by
    rw [Bool.and_true] at b1
    cases d1 with
    | cons x1 t1 =>
      cases t1 with
      | cons x2 t2 =>
        cases t2
        cases x1 with
        | tup h1 g1 => cases x2 with | tup h2 g2 => exact ⟨_, _, _, _, rfl, .inr ⟨sameT b1.s.ex h1, sameT b1.s.ex h2, q _ _ _ _ b1 (itd_zipT h1 h2 g1 g2).up⟩⟩⟩
theorem iv_enum {elts : List Expr} {kk : Nat} (hm : X.mg "enumerate" = none) (ha : EV X env a da env1 p1) (sa : IsSeq da ds) (hg : Gl X "enumerate" := by rfl) (hs : starEach [a] X.env = [(false, eval a X.env)] := by rfl) :
    IV X env (.Tuple elts kk tpos) (.Call (.Name "enumerate" p) [a] [] pos) (ds.mapIdx fun i x => .tuple [.int (i : Nat), x]) env1 p1 [] :=
  ⟨_, ZS.pi_enumK hg hm pa_ea hs, fun σ H0 H F R S q => tEA.go (ea_cons ha ea_nil (by rw [hs]; rfl)) S fun vs H01 H1 F1 b1 d1 => by
    rw [Bool.and_true] at b1
    cases d1 with
    | cons x1 t1 =>
      cases t1
      obtain ⟨k1, a1, xs, rfl, q1, r1⟩ := sa.k x1
      exact ⟨k1, a1, xs, rfl, sameK b1.s.ex q1, q _ _ _ _ b1 (itd_enum q1 r1).up⟩⟩
end
end Pu
end
section
set_option Elab.async false
set_option linter.all false
set_option maxRecDepth 100000
set_option maxHeartbeats 2000000
namespace Pu
open PySem PySem.Spec L2

/-! ### targets -/
inductive TgS where
  | nm (i : Nat)
  | t2 (a b : TgS)
  | t3 (a b c : TgS)
def gOf (K : PySem.W.Frag) : TgS → TG
  | .nm i => gName i
  | .t2 a b => gTup K 2 (gCons (gOf K a) (gCons (gOf K b) gNil))
  | .t3 a b c => gTup K 3 (gCons (gOf K a) (gCons (gOf K b) (gCons (gOf K c) gNil)))
def isOwn : Option Sv → Bool
  | some (.own _) => true
  | _ => false
def setS : TgS → PyData → List Sv → Option (List Sv)
  | .nm i, d, env => if isOwn env[i]? then none else some (env.set i (.dat d))
  | .t2 a b, .tuple [x, y], env => (setS a x env).bind (setS b y)
  | .t3 a b c, .tuple [x, y, z], env => ((setS a x env).bind (setS b y)).bind (setS c z)
  | _, _, _ => none
def idxS : TgS → List Nat
  | .nm i => [i]
  | .t2 a b => idxS a ++ idxS b
  | .t3 a b c => idxS a ++ idxS b ++ idxS c
theorem isOwn_no {o : Option Sv} (h : isOwn o = false) (Φ : Own) : o ≠ some (.own Φ) := fun e => by rw [e] at h; cases h

theorem wipe_get {σ : St} : ∀ {vs : List Nat} {j : Nat}, (wipe σ vs)[j]? = if j ∈ vs then (if j < σ.length then some none else none) else σ[j]?
  | [], j => by simp [wipe]
  | v :: vs, j => by
    unfold wipe
    by_cases q : v = j
    · subst q
      rw [List.getElem?_set]
      simp [wipe_length]
    · rw [List.getElem?_set_ne q, wipe_get]
      by_cases z : j ∈ vs
      · rw [if_pos z, if_pos (List.mem_cons_of_mem _ z)]
      · rw [if_neg z, if_neg (by simp [z, Ne.symm q])]
theorem wipe_ext {σ σ' : St} {vs : List Nat} (hl : σ.length = σ'.length) (h : ∀ j, j ∉ vs → σ[j]? = σ'[j]?) : wipe σ vs = wipe σ' vs := by
  apply List.ext_getElem?
  intro j
  rw [wipe_get, wipe_get, hl]
  by_cases q : j ∈ vs
  · simp [q]
  · simp [q, h j q]

section
variable {K : PySem.W.Frag} {env env2 : List Sv} {σ : St} {H0 H : Hp} {F : Fp}
theorem setS_t2 {a b : TgS} : ∀ {d : PyData} {env env2 : List Sv}, setS (.t2 a b) d env = some env2 → ∃ x y env1, d = .tuple [x, y] ∧ setS a x env = some env1 ∧ setS b y env1 = some env2
  | .tuple [x, y], env, env2, e => by
    cases e1 : setS a x env with
    | none => simp [setS, e1] at e
    | some env1 => exact ⟨x, y, env1, rfl, e1, by simpa [setS, e1] using e⟩
  | .tuple [], _, _, e => by simp [setS] at e
  | .tuple [_], _, _, e => by simp [setS] at e
  | .tuple (_ :: _ :: _ :: _), _, _, e => by simp [setS] at e
  | .none, _, _, e => by simp [setS] at e
  | .bool _, _, _, e => by simp [setS] at e
  | .int _, _, _, e => by simp [setS] at e
  | .str _, _, _, e => by simp [setS] at e
  | .list _, _, _, e => by simp [setS] at e
  | .dict _, _, _, e => by simp [setS] at e
theorem setS_t3 {a b c : TgS} : ∀ {d : PyData} {env env2 : List Sv}, setS (.t3 a b c) d env = some env2 → ∃ x y z env1 env3, d = .tuple [x, y, z] ∧ setS a x env = some env1 ∧ setS b y env1 = some env3 ∧ setS c z env3 = some env2
  | .tuple [x, y, z], env, env2, e => by
    cases e1 : setS a x env with
    | none => simp [setS, e1] at e
    | some env1 =>
      cases e2 : setS b y env1 with
      | none => simp [setS, e1, e2] at e
      | some env3 => exact ⟨x, y, z, env1, env3, rfl, e1, e2, by simpa [setS, e1, e2] using e⟩
  | .tuple [], _, _, e => by simp [setS] at e
  | .tuple [_], _, _, e => by simp [setS] at e
  | .tuple [_, _], _, _, e => by simp [setS] at e
  | .tuple (_ :: _ :: _ :: _ :: _), _, _, e => by simp [setS] at e
  | .none, _, _, e => by simp [setS] at e
  | .bool _, _, _, e => by simp [setS] at e
  | .int _, _, _, e => by simp [setS] at e
  | .str _, _, _, e => by simp [setS] at e
  | .list _, _, _, e => by simp [setS] at e
  | .dict _, _, _, e => by simp [setS] at e
theorem setS_nm {i : Nat} {d : PyData} {env env2 : List Sv} (e : setS (.nm i) d env = some env2) : isOwn env[i]? = false ∧ env2 = env.set i (.dat d) := by
  simp only [setS] at e
  split at e
  · cases e
  · rename_i hn
    cases e
    exact ⟨by simpa using hn, rfl⟩
theorem setS_ok : ∀ (t : TgS) {d : PyData} {x : V} {env env2 : List Sv} {σ : St} {Q : St → Hp → Prop}, setS t d env = some env2 → Sl K env σ H0 H F → Dq K H0 x d →
    (∀ σ2, Sl K env2 σ2 H0 H F → σ2.length = σ.length → (∀ j, j ∉ idxS t → σ2[j]? = σ[j]?) → Q σ2 H) → gOf K t x σ H Q
  | .nm i, d, x, env, env2, σ, Q, e, S, hd, q => by
    obtain ⟨hn, rfl⟩ := setS_nm e
    refine q _ (S.putN hd (isOwn_no hn)) (by simp) fun j hj => ?_
    rw [List.getElem?_set_ne (by simpa [idxS] using Ne.symm (by simpa [idxS] using hj))]
  | .t2 a b, d, x, env, env2, σ, Q, e, S, hd, q => by
    obtain ⟨u, v, env1, rfl, e1, e2⟩ := setS_t2 e
    cases hd with
    | tup hs ha =>
      cases ha with | cons h1 t1 => cases t1 with | cons h2 t2 =>
        cases t2
        refine ⟨_, _, rfl, sameT S.ex hs, rfl, _, _, rfl, setS_ok a e1 S h1 fun σ2 S2 l2 o2 => ⟨_, _, rfl, setS_ok b e2 S2 h2 fun σ3 S3 l3 o3 => ⟨rfl, q σ3 S3 (l3.trans l2) fun j hj => ?_⟩⟩⟩
        simp only [idxS, List.mem_append, not_or] at hj
        exact (o3 j hj.2).trans (o2 j hj.1)
  | .t3 a b c, d, x, env, env2, σ, Q, e, S, hd, q => by
    obtain ⟨u, v, w, env1, env3, rfl, e1, e2, e3⟩ := setS_t3 e
    cases hd with
    | tup hs ha =>
      cases ha with | cons h1 t1 => cases t1 with | cons h2 t2 => cases t2 with | cons h3 t3 =>
        cases t3
        refine ⟨_, _, rfl, sameT S.ex hs, rfl, _, _, rfl, setS_ok a e1 S h1 fun σ2 S2 l2 o2 => ⟨_, _, rfl, setS_ok b e2 S2 h2 fun σ3 S3 l3 o3 => ⟨_, _, rfl, setS_ok c e3 S3 h3 fun σ4 S4 l4 o4 => ⟨rfl, q σ4 S4 ((l4.trans l3).trans l2) fun j hj => ?_⟩⟩⟩⟩
        simp only [idxS, List.mem_append, not_or] at hj
        exact ((o4 j hj.2).trans (o3 j hj.1.2)).trans (o2 j hj.1.1)
theorem setS_out : ∀ (t : TgS) {d : PyData} {env env2 : List Sv}, setS t d env = some env2 → env2.length = env.length ∧ (∀ j : Nat, j ∉ idxS t → env2[j]? = env[j]?) ∧ ∀ j : Nat, isOwn env[j]? = false → isOwn env2[j]? = false
  | .nm i, d, env, env2, e => by
    obtain ⟨hn, rfl⟩ := setS_nm e
    refine ⟨by simp, fun j hj => ?_, fun j hj => ?_⟩
    · rw [List.getElem?_set_ne (by simpa [idxS] using Ne.symm (by simpa [idxS] using hj))]
    · rw [List.getElem?_set]
      split
      · split <;> rfl
      · exact hj
  | .t2 a b, d, env, env2, e => by
    obtain ⟨u, v, env1, rfl, e1, e2⟩ := setS_t2 e
    obtain ⟨l1, o1, n1⟩ := setS_out a e1
    obtain ⟨l2, o2, n2⟩ := setS_out b e2
    refine ⟨l2.trans l1, fun j hj => ?_, fun j hj => n2 j (n1 j hj)⟩
    simp only [idxS, List.mem_append, not_or] at hj
    exact (o2 j hj.2).trans (o1 j hj.1)
  | .t3 a b c, d, env, env2, e => by
    obtain ⟨u, v, w, env1, env3, rfl, e1, e2, e3⟩ := setS_t3 e
    obtain ⟨l1, o1, n1⟩ := setS_out a e1
    obtain ⟨l2, o2, n2⟩ := setS_out b e2
    obtain ⟨l3, o3, n3⟩ := setS_out c e3
    refine ⟨(l3.trans l2).trans l1, fun j hj => ?_, fun j hj => n3 j (n2 j (n1 j hj))⟩
    simp only [idxS, List.mem_append, not_or] at hj
    exact ((o3 j hj.2).trans (o2 j hj.1.2)).trans (o1 j hj.1.1)
end

/-! ### comprehensions -/
def wipeE (env : List Sv) : List Nat → List Sv
  | [] => env
  | v :: vs => (wipeE env vs).set v .non
theorem wipeE_len (env : List Sv) : ∀ vs, (wipeE env vs).length = env.length
  | [] => rfl
  | v :: vs => by unfold wipeE; rw [List.length_set, wipeE_len env vs]
theorem wipeE_get {env : List Sv} : ∀ {vs : List Nat} {j : Nat}, (wipeE env vs)[j]? = if j ∈ vs then (if j < env.length then some .non else none) else env[j]?
  | [], j => by simp [wipeE]
  | v :: vs, j => by
    unfold wipeE
    by_cases q : v = j
    · subst q
      rw [List.getElem?_set]
      simp [wipeE_len]
    · rw [List.getElem?_set_ne q, wipeE_get]
      by_cases z : j ∈ vs
      · rw [if_pos z, if_pos (List.mem_cons_of_mem _ z)]
      · rw [if_neg z, if_neg (by simp [z, Ne.symm q])]
/-- the env behind a block: its own slots as they were ahead of it -/
structure Back (env envC env' : List Sv) (vs : List Nat) : Prop where
  len : env'.length = env.length
  lenC : envC.length = env.length
  val : ∀ j : Nat, env'[j]? = if j ∈ vs then env[j]? else envC[j]?
  no : ∀ j ∈ vs, isOwn env[j]? = false
  noC : ∀ j ∈ vs, isOwn envC[j]? = false
section
variable {K : PySem.W.Frag} {env envC env' : List Sv} {σ σ' : St} {H0 H H0' H' : Hp} {F F' : Fp} {vs : List Nat}
theorem no_own {o : Option Sv} (h : ∀ Φ, o ≠ some (.own Φ)) : isOwn o = false := by
  rcases o with _ | (_ | _ | Φ)
  · rfl
  · rfl
  · rfl
  · exact absurd rfl (h Φ)
theorem Sl.wipe (S : Sl K env σ H0 H F) (hn : ∀ j ∈ vs, isOwn env[j]? = false) : Sl K (wipeE env vs) (wipe σ vs) H0 H F where
  ex := S.ex
  len := by rw [wipe_length, wipeE_len]; exact S.len
  ok := fun i sv e => by
    rw [wipeE_get] at e
    by_cases q : i ∈ vs
    · rw [if_pos q] at e
      split at e
      · cases e; trivial
      · cases e
    · rw [if_neg q] at e
      rw [wipe_get, if_neg q]
      exact S.ok i sv e
  out := S.out
  dis := S.dis
  nil := fun i h => by
    refine S.nil i (isOwn_no ?_)
    by_cases q : i ∈ vs
    · exact hn i q
    · rw [wipeE_get, if_neg q] at h
      exact no_own h
theorem Sl.back (S : Sl K env σ H0 H F) (S2 : Sl K envC σ' H0' H' F') (e : Same H0 H0') (hw : L2.wipe σ' vs = L2.wipe σ vs) (b : Back env envC env' vs) : Sl K env' σ H0' H' F' where
  ex := S2.ex
  len := by rw [b.len]; exact S.len
  ok := fun i sv h => by
    rw [b.val] at h
    by_cases q : i ∈ vs
    · rw [if_pos q] at h
      have k := S.ok i sv h
      cases sv with
      | non => trivial
      | dat d => obtain ⟨v, h1, h2⟩ := k; exact ⟨v, h1, DqM h2 e⟩
      | own Φ => have := b.no i q; rw [h] at this; cases this
    · rw [if_neg q] at h
      have k := S2.ok i sv h
      have : σ'[i]? = σ[i]? := by
        have z := congrArg (fun l : St => l[i]?) hw
        simpa [wipe_get, q] using z
      rwa [this] at k
  out := S2.out
  dis := S2.dis
  nil := fun i h => by
    refine S2.nil i (isOwn_no ?_)
    by_cases q : i ∈ vs
    · exact b.noC i q
    · rw [b.val, if_neg q] at h
      exact no_own h
/-- an object beside all this changes -/
theorem Sl.poke {D : Addr} {o u : HO} (S : Sl K env σ H0 H F) (h0 : H0 D = none) (hD : H D = some u) (nf : ∀ j, D ∉ F j) : Sl K env σ H0 (upd H D o) F where
  ex := fun a w q => by
    have : a ≠ D := fun z => by rw [z, h0] at q; cases q
    rw [upd_ne this]
    exact S.ex a w q
  len := S.len
  ok := fun i sv e => by
    have k := S.ok i sv e
    cases sv with
    | non => trivial
    | dat d => exact k
    | own Φ =>
      obtain ⟨v, h1, h2⟩ := k
      exact ⟨v, h1, Φ.st h2 (Same.refl _) fun a m o e => by
        have : a ≠ D := fun z => nf i (z ▸ m)
        rw [upd_ne this]
        exact e⟩
  out := fun i a m => by
    have : a ≠ D := fun z => nf i (z ▸ m)
    rw [upd_ne this]
    exact S.out i a m
  dis := S.dis
  nil := S.nil
theorem Bnd.poke {pu : Bool} {D : Addr} {o u : HO} (b : Bnd K env' σ H0 H F pu H0' H' F') (hH : H D = none) (h0 : H0' D = none) (hD : H' D = some u) (nf : ∀ j, D ∉ F' j) : Bnd K env' σ H0 H F pu H0' (upd H' D o) F' := by
  have nl : ∀ a w, H a = some w → a ≠ D := fun a w e z => by rw [z, hH] at e; cases e
  refine ⟨b.s.poke h0 hD nf, ⟨b.g.ex, fun a w h f => by rw [upd_ne (nl a w h)]; exact b.g.keep a w h f, b.g.apart, fun a w h => by rw [upd_ne (nl a w h)]; exact b.g.there a w h⟩, fun e => ?_⟩
  obtain ⟨e1, n⟩ := b.p e
  refine ⟨e1, n.ex, (b.s.poke (o := o) h0 hD nf).ex, fun a w h => by rw [upd_ne (nl a w h)]; exact n.keep a w h, n.apart⟩
end
end Pu
end
section
set_option Elab.async false
set_option linter.all false
set_option maxRecDepth 100000
set_option maxHeartbeats 2000000
namespace Pu
open PySem PySem.Spec L2

/-! ### comprehensions, the rule -/
structure BP where
  s : Shared
  H : Hp
  C : Addr
  cl : List (Str × Addr)
  fp : List Addr
abbrev Blk (X : Cx) (scope : Scope) (b : BP) : Cx := X.blk b.s b.H scope (compEnvC scope b.cl b.C X.env) b.fp
def tEVb (X : Cx) (scope : Scope) (e : Expr) : TE := fun σ H Q => ∃ env H0 F d env' pu, Sl X.K env σ H0 H F ∧ (∀ b, EV (Blk X scope b) env e d env' pu) ∧ ∀ v H', VKp X.K env' σ H0 H F d pu v H' → Q v H'
theorem pe_evb {X : Cx} {scope : Scope} {e : Expr} (b : BP) : PE (Blk X scope b) e (tEVb X scope e) :=
  ⟨fun pins s σ H Q I ⟨env, H0, F, d, env', pu, S, h, q⟩ => thn ((h b).run pins s σ H0 H F I S) fun u s' ⟨v, H', I', r, z⟩ => ⟨v, H', I', r, q v H' z⟩⟩
def tETb (X : Cx) (scope : Scope) (e : Expr) : TT := fun σ H Q => ∃ env H0 F b env' pu, Sl X.K env σ H0 H F ∧ (∀ y, ET (Blk X scope y) env e b env' pu) ∧ ∀ c H', BKp X.K env' σ H0 H F b pu c H' → Q c H'
theorem pt_etb {X : Cx} {scope : Scope} {e : Expr} (b : BP) : PT (Blk X scope b) e (tETb X scope e) :=
  ⟨fun pins s σ H Q I ⟨env, H0, F, d, env', pu, S, h, q⟩ => thn ((h b).run pins s σ H0 H F I S) fun c s' ⟨H', I', z⟩ => ⟨H', I', q c H' z⟩⟩
/-- a clause's tests: none, one -/
inductive IfsS where
  | no
  | one (e : Expr)
def IfsS.l : IfsS → List Expr
  | .no => []
  | .one e => [e]
def tIfs (X : Cx) (scope : Scope) : IfsS → TT
  | .no => tYes
  | .one e => tETb X scope e
theorem pts_ifs {X : Cx} {scope : Scope} (i : IfsS) (b : BP) : PTs (Blk X scope b) i.l (tIfs X scope i) := by
  cases i with
  | no => exact pts_nil
  | one e => exact pts_one (pt_etb b)
def IfsOk (X : Cx) (scope : Scope) (env : List Sv) (i : IfsS) (r : Bool) (env' : List Sv) (pu : Bool) : Prop := match i with
  | .no => r = true ∧ env' = env
  | .one e => ∀ b, ET (Blk X scope b) env e r env' pu
/-- what one turn does -/
structure Step (X : Cx) (scope : Scope) (vs : List Nat) (t : TgS) (i : IfsS) (elt : Expr) (env : List Sv) (d : PyData) (res : Option PyData) (env' : List Sv) (pu : Bool) : Prop where
  run : ∃ envT envB envC, setS t d (wipeE env vs) = some envT ∧ IfsOk X scope envT i res.isSome envB pu ∧ (match res with | some r => ∀ b, EV (Blk X scope b) envB elt r envC pu | none => envC = envB) ∧ Back env envC env' vs
/-- what a comprehension comes to -/
structure LC (X : Cx) (env : List Sv) (tg it : Expr) (i : IfsS) (elt : Expr) (scope : Scope) (own : List (Str × Nat)) (t : TgS) (ds : List PyData) (env' : List Sv) (pu : Bool) : Prop where
  ok : BlkOk X.N X.env.scope scope own
  pg : ∀ b, PG (Blk X scope b) tg (gOf X.K t)
  sf : ∀ x, foldedSetIterable it X.env x = pure x
  run : ∃ wi, PI X tg it wi ∧ ∀ σ H0 H F (Q : VK), Sl X.K env σ H0 H F → (∀ v H', VKl X.K env' σ H0 H F ds pu v H' → Q v H') → tLc wi (gOf X.K t) (tIfs X scope i) (tEVb X scope elt) (own.map (·.2)) σ H Q
section
variable {X : Cx} {env env1 : List Sv} {tg it elt : Expr} {its : List PyData} {pos : Pos} {p1 p2 : Bool} {scope : Scope} {own : List (Str × Nat)} {t : TgS} {i : IfsS}
theorem lcG {g : List Nat} (hc : X.calm = true) (hN : X.N.Nodup) (hi : IV X env tg it its env1 p1 g) (ok : BlkOk X.N X.env.scope scope own) (htg : ∀ b, PG (Blk X scope b) tg (gOf X.K t)) (hix : ∀ j ∈ idxS t, j ∈ own.map (·.2))
    (res : Nat → Option PyData) (envs : Nat → List Sv) (h0 : envs 0 = env1) (hg : ∀ k, ∀ j ∈ g, (envs k)[j]? = env1[j]?) (hz : its.length ≤ sizeLine) (hs : ∀ k d, its[k]? = some d → Step X scope (own.map (·.2)) t i elt (envs k) d (res k) (envs (k + 1)) p2)
    (hsf : ∀ x, foldedSetIterable it X.env x = pure x := by intro _; rfl) :
    LC X env tg it i elt scope own t ((List.range its.length).filterMap res) (envs its.length) (p1 && p2) := by
  obtain ⟨wi, pi, hw⟩ := hi.run
  refine ⟨ok, htg, hsf, wi, pi, fun σ H0 H F Q S qq => ?_⟩
  refine hw _ _ _ _ _ S fun J H01 H1 F1 b1 J1 D hD => ?_
  have hHD : H D = none := b1.fresh hD
  have h0D : H01 D = none := same_none b1.s.ex hD
  have nD : ∀ j, D ∉ F1 j := fun j m => by
    obtain ⟨_, o, e⟩ := b1.s.out j D m
    rw [hD] at e; cases e
  have bI := b1.new (.other b1.s.ex hD (.lst []))
  refine ⟨fun k m Hk => m = its.length - k ∧ k ≤ its.length ∧ ∃ H0k Fk acc, Bnd X.K (envs k) σ H0 H F (p1 && p2) H0k Hk Fk ∧ Same H01 H0k ∧ H0k D = none ∧ (∀ j, D ∉ Fk j) ∧ Hk D = some (.lst acc) ∧ DqAll X.K H0k acc ((List.range k).filterMap res), ⟨its.length, rfl, Nat.zero_le _, H01, F1, [], ?_, .refl _, h0D, nD, upd_same, .nil⟩, ?_⟩
  · rw [h0]
    refine ⟨bI.s, bI.g, fun e => ?_⟩
    rw [Bool.and_eq_true] at e
    exact bI.p e.1
  rintro k m Hk ⟨rfl, hk, H0k, Fk, acc, bk, ek, hDk, nfk, hacc, dacc⟩
  by_cases hlt : k < its.length
  case neg =>
    have ek' : k = its.length := by omega
    subst ek'
    exact .inl ⟨J1.stop _ _ H0k Hk _ bk.s (hg _) ek, qq _ _ ⟨H0k, Fk, D, acc, rfl, bk.s, bk.g, bk.p, hHD, hDk, hacc, nfk, dacc⟩⟩
  have hd : its[k]? = some its[k] := List.getElem?_eq_getElem hlt
  generalize its[k] = d at hd
  obtain ⟨envT, envB, envC, hsT, hifs, helt, hback⟩ := (hs k d hd).run
  refine .inr ⟨J1.go k _ _ H0k Hk _ bk.s (hg _) ek hlt, fun H' => ∃ H0k Fk acc, Bnd X.K (envs (k + 1)) σ H0 H F (p1 && p2) H0k H' Fk ∧ Same H01 H0k ∧ H0k D = none ∧ (∀ j, D ∉ Fk j) ∧ H' D = some (.lst acc) ∧ DqAll X.K H0k acc ((List.range (k + 1)).filterMap res), fun H' z => ⟨its.length - (k + 1), by omega, rfl, hlt, z⟩, fun x H' hy => ?_⟩
  obtain ⟨H0y, ny, dx⟩ := J1.yld k d _ _ H0k Hk _ x H' bk.s (hg _) ek hd hy
  have by1 := bk.new ny
  have Sw : Sl X.K (wipeE (envs k) (own.map (·.2))) (wipe σ (own.map (·.2))) H0y H' Fk := by1.s.wipe hback.no
  refine setS_ok t hsT Sw dx fun σ2 S2 l2 o2 => ⟨?_, ?_⟩
  · refine wipe_ext (by rw [l2, wipe_length]) fun j hj => ?_
    rw [o2 j fun z => hj (hix j z), wipe_get, if_neg hj]
  have hw2 : wipe σ2 (own.map (·.2)) = wipe σ (own.map (·.2)) := wipe_ext (by rw [l2, wipe_length]) fun j hj => by rw [o2 j fun z => hj (hix j z), wipe_get, if_neg hj]
  have hy0 : H0y D = none := ny.apart D _ hacc hDk
  have hyD : H' D = some (.lst acc) := ny.keep D _ hacc
  have lacc : acc.length < sizeLine := by
    rw [da_len dacc]
    refine Nat.lt_of_le_of_lt (List.length_filterMap_le _ _) ?_
    rw [List.length_range]
    omega
  have rng : List.range (k + 1) = List.range k ++ [k] := List.range_succ
  have fin : ∀ H0t Ht Ft, Bnd X.K envC σ2 H0y H' Fk p2 H0t Ht Ft → Bnd X.K (envs (k + 1)) σ H0 H F (p1 && p2) H0t Ht Ft := fun H0t Ht Ft bt =>
    ⟨by1.s.back bt.s bt.g.ex hw2 hback, by1.g.trans by1.s.goS bt.g, fun e => by
      have e2 : p2 = true := by rw [Bool.and_eq_true] at e; exact e.2
      exact ⟨(bt.p e2).1.trans (by1.p e).1, (by1.p e).2.trans (bt.p e2).2⟩⟩
  have tst : ∀ (Q : Bool → Hp → Prop), (∀ H0t Ht Ft, Bnd X.K envB σ2 H0y H' Fk p2 H0t Ht Ft → Q (res k).isSome Ht) → tIfs X scope i σ2 H' Q := fun Q q => by
    cases i with
    | no =>
      obtain ⟨e1, e2⟩ := hifs
      show Q true H'
      rw [← e1]
      refine q H0y H' Fk ?_
      rw [e2]
      exact ⟨S2, Go.refl, fun _ => ⟨rfl, New.refl S2.ex⟩⟩
    | one e => exact ⟨envT, H0y, Fk, _, envB, p2, S2, hifs, fun c H2 z => by
        obtain ⟨ec, H0t, Ft, bt⟩ := z.bnd
        rw [ec]
        exact q H0t H2 Ft bt⟩
  have keepD : ∀ {env3 : List Sv} {pu3 : Bool} {H0t Ht : Hp} {Ft : Fp}, Bnd X.K env3 σ2 H0y H' Fk pu3 H0t Ht Ft → H0t D = none ∧ (∀ j, D ∉ Ft j) ∧ Ht D = some (.lst acc) := fun b =>
    ⟨(b.g.apart D _ hyD hy0 nfk).1, (b.g.apart D _ hyD hy0 nfk).2, b.g.keep D _ hyD nfk⟩
  refine tst _ fun H0t Ht Ft bt => ?_
  cases hr : res k with
  | none =>
    rw [hr] at helt
    have helt : envC = envB := helt
    rw [Option.isSome_none, if_neg Bool.false_ne_true]
    rw [← helt] at bt
    obtain ⟨g1, g2, g3⟩ := keepD bt
    refine ⟨H0t, Ft, acc, fin _ _ _ bt, (ek.trans ny.ex).trans bt.g.ex, g1, g2, g3, ?_⟩
    rw [rng, List.filterMap_append]
    simp only [List.filterMap_cons, hr, List.filterMap_nil, List.append_nil]
    exact DqAllM (DqAllM dacc ny.ex) bt.g.ex
  | some r =>
    rw [hr] at helt
    have helt : ∀ b, EV (Blk X scope b) envB elt r envC p2 := helt
    rw [Option.isSome_some, if_pos rfl]
    refine ⟨envB, H0t, Ft, r, envC, p2, bt.s, helt, fun y H4 z => ?_⟩
    obtain ⟨H05, F5, b5, d5⟩ := z.bnd
    have b6 := bt.trans b5
    rw [Bool.and_self] at b6
    obtain ⟨g1, g2, g3⟩ := keepD b6
    refine ⟨acc, g3, lacc, H05, F5, acc ++ [y], (fin _ _ _ b6).poke hHD g1 g3 g2, (ek.trans ny.ex).trans b6.g.ex, g1, g2, upd_same, ?_⟩
    rw [rng, List.filterMap_append]
    simp only [List.filterMap_cons, hr, List.filterMap_nil]
    exact da_app (DqAllM (DqAllM dacc ny.ex) b6.g.ex) (.cons d5 .nil)
theorem LC.el {ds : List PyData} (h : LC X env tg it i elt scope own t ds env1 p1) (hc : X.calm = true) (hN : X.N.Nodup) : EL X env (.ListComp elt [⟨tg, it, i.l, 0⟩] scope pos) ds env1 p1 := by
  obtain ⟨wi, pi, hw⟩ := h.run
  exact .of (pe_lc hc hN pi h.ok (fun s H C cl fp => h.pg ⟨s, H, C, cl, fp⟩) (fun s H C cl fp => pts_ifs i ⟨s, H, C, cl, fp⟩) (fun s H C cl fp => pe_evb ⟨s, H, C, cl, fp⟩) h.sf) fun σ H0 H F S => hw σ H0 H F _ S fun _ _ z => z
end
end Pu
namespace Pu
open PySem PySem.Spec L2
theorem fm_range {α β : Type} (h : α → Option β) : ∀ xs : List α, (List.range xs.length).filterMap (fun k => xs[k]?.bind h) = xs.filterMap h
  | [] => rfl
  | x :: xs => by
    rw [List.length_cons, List.range_succ_eq_map, List.filterMap_cons, List.filterMap_map]
    have ih := fm_range h xs
    have e : ((fun k => (x :: xs)[k]?.bind h) ∘ Nat.succ) = fun k => xs[k]?.bind h := by funext k; simp
    rw [e, ih]
    simp [List.filterMap_cons]
section
variable {X : Cx} {env env1 : List Sv} {tg it elt c : Expr} {its : List PyData} {pos : Pos} {p1 p2 : Bool} {scope : Scope} {own : List (Str × Nat)} {t : TgS} {i : IfsS}
theorem back_pure {vs : List Nat} {d : PyData} {envT : List Sv} (h : setS t d (wipeE env1 vs) = some envT) (hix : ∀ j ∈ idxS t, j ∈ vs) (hno : ∀ j ∈ vs, isOwn env1[j]? = false) : Back env1 envT env1 vs := by
  obtain ⟨l, o, n⟩ := setS_out t h
  refine ⟨rfl, l.trans (wipeE_len _ _), fun j => ?_, hno, fun j hj => n j ?_⟩
  · by_cases q : j ∈ vs
    · rw [if_pos q]
    · rw [if_neg q, o j fun z => q (hix j z), wipeE_get, if_neg q]
  · rw [wipeE_get, if_pos hj]
    split <;> rfl
theorem lcP {g : List Nat} {α : Type} (xs : List α) (ga f : α → PyData) (bt : α → Bool) (envT : α → List Sv) (hc : X.calm = true) (hN : X.N.Nodup) (hi : IV X env tg it (xs.map ga) env1 p1 g) (ok : BlkOk X.N X.env.scope scope own) (htg : ∀ b, PG (Blk X scope b) tg (gOf X.K t)) (hix : ∀ j ∈ idxS t, j ∈ own.map (·.2))
    (hno : ∀ j ∈ own.map (·.2), isOwn env1[j]? = false) (hz : xs.length ≤ sizeLine) (hT : ∀ x ∈ xs, setS t (ga x) (wipeE env1 (own.map (·.2))) = some (envT x)) (hI : ∀ x ∈ xs, IfsOk X scope (envT x) i (bt x) (envT x) true) (hE : ∀ x ∈ xs, bt x = true → ∀ b, EV (Blk X scope b) (envT x) elt (f x) (envT x) true)
    (hsf : ∀ x, foldedSetIterable it X.env x = pure x := by intro _; rfl) :
    LC X env tg it i elt scope own t ((xs.filter bt).map f) env1 p1 := by
  have h := lcG (elt := elt) (p2 := true) (t := t) (i := i) hc hN hi ok htg hix (fun k => xs[k]?.bind fun x => if bt x then some (f x) else none) (fun _ => env1) rfl (fun _ _ _ => rfl) (by simpa using hz) (fun k d hd => by
    rw [List.getElem?_map] at hd
    cases hx : xs[k]? with
    | none => rw [hx] at hd; cases hd
    | some x =>
      rw [hx] at hd
      cases hd
      have hm : x ∈ xs := List.mem_of_getElem? hx
      refine ⟨envT x, envT x, envT x, hT x hm, ?_, ?_, back_pure (hT x hm) hix hno⟩
      · have := hI x hm
        cases hb : bt x <;> simpa [hx, hb] using this
      · cases hb : bt x with
        | true => simpa [hb] using hE x hm hb
        | false => simp [hb]) hsf
  rw [List.length_map, fm_range, Bool.and_true] at h
  have e : xs.filterMap (fun x => if bt x then some (f x) else none) = (xs.filter bt).map f := by
    clear h hE hI hT hz hi
    induction xs with
    | nil => rfl
    | cons x xs ih => cases hb : bt x <;> simp [List.filterMap_cons, List.filter_cons, hb, ih]
  rwa [e] at h
/-- without a test -/
theorem lc0 {g : List Nat} {α : Type} (xs : List α) (ga f : α → PyData) (envT : α → List Sv) (hc : X.calm = true) (hN : X.N.Nodup) (hi : IV X env tg it (xs.map ga) env1 p1 g) (ok : BlkOk X.N X.env.scope scope own) (htg : ∀ b, PG (Blk X scope b) tg (gOf X.K t)) (hix : ∀ j ∈ idxS t, j ∈ own.map (·.2))
    (hno : ∀ j ∈ own.map (·.2), isOwn env1[j]? = false) (hz : xs.length ≤ sizeLine) (hT : ∀ x ∈ xs, setS t (ga x) (wipeE env1 (own.map (·.2))) = some (envT x)) (hE : ∀ x ∈ xs, ∀ b, EV (Blk X scope b) (envT x) elt (f x) (envT x) true)
    (hsf : ∀ x, foldedSetIterable it X.env x = pure x := by intro _; rfl) : LC X env tg it .no elt scope own t (xs.map f) env1 p1 := by
  have h := lcP (i := .no) (t := t) xs ga f (fun _ => true) envT hc hN hi ok htg hix hno hz hT (fun x hx => ⟨rfl, rfl⟩) (fun x hx _ => hE x hx) hsf
  have e : xs.filter (fun _ => true) = xs := List.filter_eq_self.mpr fun _ _ => rfl
  rwa [e] at h
/-- with one test -/
theorem lcI {g : List Nat} {α : Type} (xs : List α) (ga f : α → PyData) (bt : α → Bool) (envT : α → List Sv) (hc : X.calm = true) (hN : X.N.Nodup) (hi : IV X env tg it (xs.map ga) env1 p1 g) (ok : BlkOk X.N X.env.scope scope own) (htg : ∀ b, PG (Blk X scope b) tg (gOf X.K t)) (hix : ∀ j ∈ idxS t, j ∈ own.map (·.2))
    (hno : ∀ j ∈ own.map (·.2), isOwn env1[j]? = false) (hz : xs.length ≤ sizeLine) (hT : ∀ x ∈ xs, setS t (ga x) (wipeE env1 (own.map (·.2))) = some (envT x)) (hI : ∀ x ∈ xs, ∀ b, ET (Blk X scope b) (envT x) c (bt x) (envT x) true) (hE : ∀ x ∈ xs, bt x = true → ∀ b, EV (Blk X scope b) (envT x) elt (f x) (envT x) true)
    (hsf : ∀ x, foldedSetIterable it X.env x = pure x := by intro _; rfl) : LC X env tg it (.one c) elt scope own t ((xs.filter bt).map f) env1 p1 :=
  lcP (i := .one c) (t := t) xs ga f bt envT hc hN hi ok htg hix hno hz hT (fun x hx => hI x hx) hE hsf
end
end Pu
end
section
set_option Elab.async false
set_option linter.all false
set_option maxRecDepth 100000
set_option maxHeartbeats 2000000
namespace Pu
open PySem PySem.Spec L2

/-! ### lists of the frame's own -/
def lstA (K : PySem.W.Frag) (l : Addr) (ds : List PyData) : Own where
  P := fun v H0 H F => v = .ref l ∧ F = [l] ∧ ∃ xs, H l = some (.lst xs) ∧ DqAll K H0 xs ds
  st := fun {v H0 H H0' H' F} h e k => by
    obtain ⟨rfl, rfl, xs, h1, h2⟩ := h
    exact ⟨rfl, rfl, xs, k _ (by simp) _ h1, DqAllM h2 e⟩
def lstO (K : PySem.W.Frag) (ds : List PyData) : Own where
  P := fun v H0 H F => ∃ l, (lstA K l ds).P v H0 H F
  st := fun {v H0 H H0' H' F} h e k => h.elim fun l h => ⟨l, (lstA K l ds).st h e k⟩

/-! ### values of both kinds -/
/-- v is what sv says, at the new objects f (new since H) -/
def Rv (K : PySem.W.Frag) (H H0' H' : Hp) (F' : Fp) (v : V) : Sv → List Addr → Prop
  | .non, _ => False
  | .dat d, f => Dq K H0' v d ∧ f = []
  | .own Φ, f => Φ.P v H0' H' f ∧ ∀ a ∈ f, H a = none ∧ H0' a = none ∧ (∃ o, H' a = some o) ∧ ∀ j, a ∉ F' j
def VKg (K : PySem.W.Frag) (env' : List Sv) (σ : St) (H0 H : Hp) (F : Fp) (sv : Sv) (pu : Bool) : VK := fun v H' => ∃ H0' F' f, Bnd K env' σ H0 H F pu H0' H' F' ∧ Rv K H H0' H' F' v sv f
structure EG (X : Cx) (env : List Sv) (e : Expr) (sv : Sv) (env' : List Sv) (pu : Bool) : Prop where
  run : ∀ (pins : List (Addr × Obj)) (s : Shared) (σ : St) (H0 H : Hp) (F : Fp), Inv X pins σ H s → Sl X.K env σ H0 H F →
    wpAny (model X.prog X.w) X.A (eval e X.env) (EP X pins σ (VKg X.K env' σ H0 H F sv pu)) X.xe s
def tEG (X : Cx) (e : Expr) : TE := fun σ H Q => ∃ env H0 F sv env' pu, Sl X.K env σ H0 H F ∧ EG X env e sv env' pu ∧ ∀ v H', VKg X.K env' σ H0 H F sv pu v H' → Q v H'
section
variable {X : Cx} {env env1 env2 env' : List Sv} {e : Expr} {es : List Expr} {d : PyData} {ds : List PyData} {sv : Sv} {p1 p2 : Bool}
theorem pe_eg : PE X e (tEG X e) := ⟨fun pins s σ H Q I ⟨env, H0, F, sv, env', pu, S, h, q⟩ => thn (h.run pins s σ H0 H F I S) fun u s' ⟨v, H', I', r, z⟩ => ⟨v, H', I', r, q v H' z⟩⟩
theorem EG.of {t : TE} (h : PE X e t) (hr : ∀ σ H0 H F, Sl X.K env σ H0 H F → t σ H (VKg X.K env' σ H0 H F sv p1)) : EG X env e sv env' p1 := ⟨fun pins s σ H0 H F I S => h.run pins s σ H _ I (hr σ H0 H F S)⟩
theorem tEG.go {σ : St} {H0 H : Hp} {F : Fp} {Q : VK} (h : EG X env e sv env' p1) (S : Sl X.K env σ H0 H F) (q : ∀ v H0' H' F' f, Bnd X.K env' σ H0 H F p1 H0' H' F' → Rv X.K H H0' H' F' v sv f → Q v H') : tEG X e σ H Q :=
  ⟨env, H0, F, sv, env', p1, S, h, fun v H' ⟨H0', F', f, b, r⟩ => q v H0' H' F' f b r⟩
theorem EV.eg (h : EV X env e d env1 p1) : EG X env e (.dat d) env1 p1 := .of pe_ev fun σ H0 H F S => tEV.go h S fun v H01 H1 F1 b1 d1 => ⟨H01, F1, [], b1, d1, rfl⟩
theorem EL.eg (h : EL X env e ds env1 p1) : EG X env e (.own (lstO X.K ds)) env1 p1 := .of pe_el fun σ H0 H F S => tEL.go h S fun l xs H01 H1 F1 b1 n1 n2 hl nf hd =>
  ⟨H01, F1, [l], b1, ⟨l, rfl, rfl, xs, hl, hd⟩, fun a m => by
    have e : a = l := by simpa using m
    subst e
    exact ⟨n1, n2, ⟨_, hl⟩, nf⟩⟩
/-- several, one after another; u: all their new objects -/
inductive Rvs (K : PySem.W.Frag) (H H0' H' : Hp) (F' : Fp) : List Addr → List V → List Sv → Prop
  | nil : Rvs K H H0' H' F' [] [] []
  | cons {v : V} {sv : Sv} {f u : List Addr} {vs : List V} {svs : List Sv} : Rv K H H0' H' F' v sv f → (∀ a ∈ f, a ∉ u) → Rvs K H H0' H' F' u vs svs → Rvs K H H0' H' F' (f ++ u) (v :: vs) (sv :: svs)
theorem Rv.there {K : PySem.W.Frag} {H H0' H' : Hp} {F' : Fp} {v : V} {f : List Addr} (h : Rv K H H0' H' F' v sv f) : ∀ a ∈ f, ∃ o, H' a = some o := by
  cases sv with
  | non => exact h.elim
  | dat d => rw [h.2]; simp
  | own Φ => exact fun a m => (h.2 a m).2.2.1
theorem Rv.new {K : PySem.W.Frag} {H H0' H' : Hp} {F' : Fp} {v : V} {f : List Addr} (h : Rv K H H0' H' F' v sv f) : ∀ a ∈ f, H a = none := by
  cases sv with
  | non => exact h.elim
  | dat d => rw [h.2]; simp
  | own Φ => exact fun a m => (h.2 a m).1
theorem Rvs.new {K : PySem.W.Frag} {H H0' H' : Hp} {F' : Fp} : ∀ {u : List Addr} {vs : List V} {svs : List Sv}, Rvs K H H0' H' F' u vs svs → ∀ a ∈ u, H a = none
  | _, _, _, .nil, a, m => by simp at m
  | _, _, _, .cons r _ t, a, m => (List.mem_append.mp m).elim (r.new a) (t.new a)
theorem Rvs.weak {K : PySem.W.Frag} {H Hs H0' H' : Hp} {F' : Fp} (k : ∀ a o, Hs a = some o → ∃ o', H a = some o') : ∀ {u : List Addr} {vs : List V} {svs : List Sv}, Rvs K H H0' H' F' u vs svs → Rvs K Hs H0' H' F' u vs svs
  | _, _, _, .nil => .nil
  | _, _, _, .cons (sv := sv) r n t => .cons (by
      cases sv with
      | non => exact r.elim
      | dat d => exact r
      | own Φ =>
        refine ⟨r.1, fun a m => ⟨?_, (r.2 a m).2⟩⟩
        cases q : Hs a with
        | none => rfl
        | some o =>
          obtain ⟨o', e⟩ := k a o q
          rw [(r.2 a m).1] at e
          cases e) n (t.weak k)
def AKg (K : PySem.W.Frag) (env' : List Sv) (σ : St) (H0 H : Hp) (F : Fp) (svs : List Sv) (pu : Bool) : List V → Hp → Prop := fun vs H' => ∃ H0' F' u, Bnd K env' σ H0 H F pu H0' H' F' ∧ Rvs K H H0' H' F' u vs svs
structure EGs (X : Cx) (env : List Sv) (es : List Expr) (svs : List Sv) (env' : List Sv) (pu : Bool) : Prop where
  run : ∃ t, PA X es t ∧ ∀ σ H0 H F Q, Sl X.K env σ H0 H F → (∀ vs H', AKg X.K env' σ H0 H F svs pu vs H' → Q vs H') → t σ H Q
variable {svs : List Sv}
theorem egs_nil : EGs X env [] [] env true := ⟨_, pa_nil, fun σ H0 H F Q S q => q _ _ ⟨H0, F, [], .refl S, .nil⟩⟩
theorem egs_cons (ha : EG X env e sv env1 p1) (hb : EGs X env1 es svs env2 p2) (hs : starEach (e :: es) X.env = (false, eval e X.env) :: starEach es X.env := by rfl) : EGs X env (e :: es) (sv :: svs) env2 (p1 && p2) := by
  obtain ⟨t, pt, q⟩ := hb.run
  refine ⟨_, pa_cons pe_eg pt hs, fun σ H0 H F Q S qq => tEG.go ha S fun v H01 H1 F1 f b1 r1 => q σ H01 H1 F1 _ b1.s fun vs H2 ⟨H02, F2, u, b2, r2⟩ => qq _ _ ⟨H02, F2, f ++ u, b1.trans b2, ?_⟩⟩
  have old : ∀ a o, H a = some o → ∃ o', H1 a = some o' := b1.g.there
  refine .cons ?_ (fun a m n => ?_) (r2.weak old)
  · cases sv with
    | non => exact r1.elim
    | dat d => exact ⟨DqM r1.1 b2.g.ex, r1.2⟩
    | own Φ =>
      refine ⟨Φ.st r1.1 b2.g.ex fun a m o e => b2.g.keep a o e (r1.2 a m).2.2.2, fun a m => ?_⟩
      obtain ⟨n1, n2, ⟨o, ho⟩, nf⟩ := r1.2 a m
      exact ⟨n1, (b2.g.apart a o ho n2 nf).1, ⟨o, b2.g.keep a o ho nf⟩, (b2.g.apart a o ho n2 nf).2⟩
  · obtain ⟨o, ho⟩ := r1.there a m
    rw [r2.new a n] at ho
    cases ho
end

/-! ### to stow a value in a slot -/
def setF (F : Fp) (i : Nat) (f : List Addr) : Fp := fun j => if j = i then f else F j
section
variable {K : PySem.W.Frag} {env env' : List Sv} {σ : St} {Hs H0s H0 H : Hp} {F Fs : Fp} {v : V} {sv : Sv} {f u : List Addr} {i : Nat}
theorem Sl.stow (S : Sl K env σ H0 H F) (hi : i < env.length) (r : Rv K Hs H0 H F v sv f) : Sl K (env.set i sv) (σ.set i (some v)) H0 H (setF F i f) := by
  cases sv with
  | non => exact r.elim
  | dat d => rw [r.2]; exact S.put r.1
  | own Φ => exact S.give hi r.1 fun a m => ⟨(r.2 a m).2.1, (r.2 a m).2.2.1, (r.2 a m).2.2.2⟩
theorem Go.stow (g : Go H0s Hs Fs H0 H F) (hf : ∀ a ∈ f, Hs a = none) : Go H0s Hs Fs H0 H (setF F i f) :=
  ⟨g.ex, g.keep, fun a o h n k => ⟨(g.apart a o h n k).1, fun j m => by
    unfold setF at m
    split at m
    · rw [hf a m] at h; cases h
    · exact (g.apart a o h n k).2 j m⟩, g.there⟩
theorem Rv.stow {f' : List Addr} {w : V} {sv' : Sv} (r : Rv K Hs H0 H F w sv' f') (n : ∀ a ∈ f, a ∉ f') : Rv K Hs H0 H (setF F i f) w sv' f' := by
  cases sv' with
  | non => exact r.elim
  | dat d => exact r
  | own Φ => exact ⟨r.1, fun a m => ⟨(r.2 a m).1, (r.2 a m).2.1, (r.2 a m).2.2.1, fun j z => by
      unfold setF at z
      split at z
      · exact n a z m
      · exact (r.2 a m).2.2.2 j z⟩⟩
theorem Rvs.stow : ∀ {u : List Addr} {vs : List V} {svs : List Sv}, Rvs K Hs H0 H F u vs svs → (∀ a ∈ f, a ∉ u) → Rvs K Hs H0 H (setF F i f) u vs svs
  | _, _, _, .nil, _ => .nil
  | _, _, _, .cons r n t, h => .cons (r.stow fun a m z => h a m (List.mem_append_left _ z)) n (t.stow fun a m z => h a m (List.mem_append_right _ z))
end
end Pu
end
section
set_option Elab.async false
set_option linter.all false
set_option maxRecDepth 100000
set_option maxHeartbeats 2000000
namespace Pu
open PySem PySem.Spec L2

/-! ### statements -/
inductive Oc where
  | nx
  | rt (d : PyData)
  | bk
  | ct
  | ro (Φ : Own)
def Oc.to (K : PySem.W.Frag) (D : Ends) (Hs : Hp) (σ : St) (H0 H : Hp) (F : Fp) : Oc → Prop
  | .nx => D.nx σ H
  | .bk => D.bk σ H
  | .ct => D.ct σ H
  | .rt d => ∀ v, Dq K H0 v d → D.rt v H
  | .ro Φ => ∀ v f, Rv K Hs H0 H F v (.own Φ) f → D.rt v H
theorem Rv.weak {K : PySem.W.Frag} {Hs Hn H0 H : Hp} {F : Fp} {v : V} {Φ : Own} {f : List Addr} (k : ∀ a o, Hs a = some o → ∃ o', Hn a = some o') (r : Rv K Hn H0 H F v (.own Φ) f) : Rv K Hs H0 H F v (.own Φ) f := by
  refine ⟨r.1, fun a m => ⟨?_, (r.2 a m).2⟩⟩
  cases q : Hs a with
  | none => rfl
  | some o =>
    obtain ⟨o', e⟩ := k a o q
    rw [(r.2 a m).1] at e
    cases e
theorem Oc.back {K : PySem.W.Frag} {D : Ends} {Hs Hn : Hp} {σ : St} {H0 H : Hp} {F : Fp} {oc : Oc} (k : ∀ a o, Hs a = some o → ∃ o', Hn a = some o') (h : oc.to K D Hs σ H0 H F) : oc.to K D Hn σ H0 H F := by
  cases oc with
  | nx => exact h
  | bk => exact h
  | ct => exact h
  | rt d => exact h
  | ro Φ => exact fun v f r => h v f (r.weak k)
def Fin (K : PySem.W.Frag) (H0 H : Hp) (F : Fp) (Q : List Sv → Oc → Prop) (D : Ends) : Prop := ∀ env' oc σ' H0' H' F', Q env' oc → Sl K env' σ' H0' H' F' → Go H0 H F H0' H' F' → oc.to K D H σ' H0' H' F'
/-- Q: how it ends -/
structure SR (X : Cx) (env : List Sv) (sts : List Stmt) (Q : List Sv → Oc → Prop) : Prop where
  run : ∀ (pins : List (Addr × Obj)) (s : Shared) (σ : St) (H0 H : Hp) (F : Fp) (D : Ends), Inv X pins σ H s → Sl X.K env σ H0 H F → Fin X.K H0 H F Q D → wpAny (model X.prog X.w) X.A (execs sts X.env) (SP X pins D) X.xe s
def tSR (X : Cx) (sts : List Stmt) : TS := fun D σ H => ∃ env H0 F Q, Sl X.K env σ H0 H F ∧ SR X env sts Q ∧ Fin X.K H0 H F Q D
section
variable {X : Cx} {env env1 env2 env3 : List Sv} {Q Q' : List Sv → Oc → Prop} {sts rest body a b : List Stmt} {st : Stmt} {e c tg it e2 e3 : Expr} {d : PyData} {ds its : List PyData} {sv : Sv} {svs : List Sv} {p1 p2 ba : Bool} {pos py pz pw pt pt2 : Pos} {i j l : Nat} {x y z : Str}
theorem pss_sr : PSs X sts (tSR X sts) := ⟨fun pins s σ H D I ⟨env, H0, F, Q, S, h, f⟩ => h.run pins s σ H0 H F D I S f⟩
theorem SR.of {t : TS} (h : PSs X sts t) (hr : ∀ σ H0 H F D, Sl X.K env σ H0 H F → Fin X.K H0 H F Q D → t D σ H) : SR X env sts Q := ⟨fun pins s σ H0 H F D I S f => h.run pins s σ H D I (hr σ H0 H F D S f)⟩
theorem Fin.step {K : PySem.W.Frag} {H0 H H01 H1 : Hp} {F F1 : Fp} {D : Ends} (f : Fin K H0 H F Q D) (g : Go H0 H F H01 H1 F1) (s : ∀ i a, a ∈ F1 i → H01 a = none) : Fin K H01 H1 F1 Q D := fun env' oc σ' H0' H' F' q S' g' => Oc.back (oc := oc) g.there (f env' oc σ' H0' H' F' q S' (g.trans s g'))
theorem tSR.go {D : Ends} {σ : St} {H0 H : Hp} {F : Fp} (S : Sl X.K env σ H0 H F) (h : SR X env sts Q) (f : Fin X.K H0 H F Q D) : tSR X sts D σ H := ⟨env, H0, F, Q, S, h, f⟩
theorem SR.mono (h : SR X env sts Q) (q : ∀ e oc, Q e oc → Q' e oc) : SR X env sts Q' := ⟨fun pins s σ H0 H F D I S f => h.run pins s σ H0 H F D I S fun env' oc σ' H0' H' F' z => f env' oc σ' H0' H' F' (q _ _ z)⟩
theorem sr_nil (h : Q env .nx) : SR X env [] Q := .of pss_nil fun σ H0 H F D S f => f env .nx σ H0 H F h S .refl
/-- behind a first statement that goes on -/
theorem sr_cons {t : TS} (h : PS X st t) (hr : SR X env1 rest Q) (ht : ∀ σ H0 H F (D : Ends), Sl X.K env σ H0 H F → (∀ σ1 H01 H1 F1, Sl X.K env1 σ1 H01 H1 F1 → Go H0 H F H01 H1 F1 → D.nx σ1 H1) → t D σ H) : SR X env (st :: rest) Q :=
  .of (pss_cons h pss_sr) fun σ H0 H F D S f => ht σ H0 H F _ S fun σ1 H01 H1 F1 S1 g1 => tSR.go S1 hr (f.step g1 S1.goS)
theorem lt_of {env : List Sv} {i : Nat} (h : env[i]?.isSome = true) : i < env.length := by
  rw [Option.isSome_iff_exists] at h
  obtain ⟨a, h⟩ := h
  exact (List.getElem?_eq_some_iff.mp h).1
/-- name = e -/
theorem sr_asg (hN : X.N.Nodup) (hi : X.N[i]? = some x) (hx : Loc X.env.scope x) (he : EG X env e sv env1 p1) (hr : SR X (env1.set i sv) rest Q) (hl : env1[i]?.isSome = true := by rfl) (hs : swapsWith e (some (.Name x py)) pos.line X.env = pure false := by rfl)
    (hf : X.fn x = true ∨ X.env.scope.names.lookup x = some .local := by first | exact .inl rfl | exact .inr rfl | assumption) : SR X env (.Assign [.Name x py] e pos :: rest) Q :=
  sr_cons (ps_set hN hi hx pe_eg hs hf) hr fun σ H0 H F D S f => tEG.go he S fun v H01 H1 F1 fr b1 r1 => f _ _ _ _ (b1.s.stow (lt_of hl) r1) (b1.g.stow r1.new)
/-- a tuple taken apart -/
theorem sr_tup {t : TgS} (he : EV X env e d env1 p1) (hg : PG X tg (gOf X.K t)) (ht : setS t d env1 = some env2) (hr : SR X env2 rest Q) (hs : swapsWithSole [tg] e pos.line X.env = pure false := by rfl) (hw : swappedStores [tg] e X.env = pure none := by rfl)
    (h1 : (assignEach [tg] X.env).map (·.2) = [assign tg X.env] := by rfl) : SR X env (.Assign [tg] e pos :: rest) Q :=
  sr_cons (ps_asg pe_ev hg hs hw h1) hr fun σ H0 H F D S f => tEV.go he S fun v H01 H1 F1 b1 d1 => setS_ok t ht b1.s d1 fun σ2 S2 _ _ => f _ _ _ _ S2 b1.g
theorem sr_par {kt k2 : Nat} (hc : X.calm = true) (hN : X.N.Nodup) (hi : X.N[i]? = some x) (hj : X.N[j]? = some y) (hij : i ≠ j) (hx : X.env.scope.names.lookup x = some .local) (hy : X.env.scope.names.lookup y = some .local)
    {sv sv2 : Sv} (he : EGs X env [e, e2] [sv, sv2] env1 p1) (hr : SR X ((env1.set i sv).set j sv2) rest Q) (hl : env1[i]?.isSome = true := by rfl) (hl2 : env1[j]?.isSome = true := by rfl)
    (hw : swappedStores [.Tuple [.Name x py, .Name y pz] kt pt] (.Tuple [e, e2] k2 pt2) X.env = pure (some [x, y]) := by rfl) (hs : swapsWithSole [.Tuple [.Name x py, .Name y pz] kt pt] (.Tuple [e, e2] k2 pt2) pos.line X.env = pure false := by rfl) :
    SR X env (.Assign [.Tuple [.Name x py, .Name y pz] kt pt] (.Tuple [e, e2] k2 pt2) pos :: rest) Q := by
  obtain ⟨t, pa, q⟩ := he.run
  refine sr_cons (ps_par hc hN hi hj hij hx hy pa hw hs) hr fun σ H0 H F D S f => q _ _ _ _ _ S fun vs H1 ⟨H01, F1, u, b1, r⟩ => ?_
  cases r with
  | cons r1 n1 t1 =>
    cases t1 with
    | cons r2 n2 t2 =>
      cases t2
      refine ⟨_, _, rfl, f _ _ _ _ ((b1.s.stow (lt_of hl) r1).stow (by rw [List.length_set]; exact lt_of hl2) (r2.stow fun a m => ?_)) ((b1.g.stow r1.new).stow r2.new)⟩
      simpa using n1 a m
theorem sr_par3 {kt k2 : Nat} (hc : X.calm = true) (hN : X.N.Nodup) (hi : X.N[i]? = some x) (hj : X.N[j]? = some y) (hl : X.N[l]? = some z) (hij : i ≠ j) (hil : i ≠ l) (hjl : j ≠ l)
    (hx : X.env.scope.names.lookup x = some .local) (hy : X.env.scope.names.lookup y = some .local) (hz : X.env.scope.names.lookup z = some .local)
    {sv sv2 sv3 : Sv} (he : EGs X env [e, e2, e3] [sv, sv2, sv3] env1 p1) (hr : SR X (((env1.set i sv).set j sv2).set l sv3) rest Q) (h1 : env1[i]?.isSome = true := by rfl) (h2 : env1[j]?.isSome = true := by rfl) (h3 : env1[l]?.isSome = true := by rfl)
    (hw : swappedStores [.Tuple [.Name x py, .Name y pz, .Name z pw] kt pt] (.Tuple [e, e2, e3] k2 pt2) X.env = pure (some [x, y, z]) := by rfl) (hs : swapsWithSole [.Tuple [.Name x py, .Name y pz, .Name z pw] kt pt] (.Tuple [e, e2, e3] k2 pt2) pos.line X.env = pure false := by rfl) :
    SR X env (.Assign [.Tuple [.Name x py, .Name y pz, .Name z pw] kt pt] (.Tuple [e, e2, e3] k2 pt2) pos :: rest) Q := by
  obtain ⟨t, pa, q⟩ := he.run
  refine sr_cons (ps_par3 hc hN hi hj hl hij hil hjl hx hy hz pa hw hs) hr fun σ H0 H F D S f => q _ _ _ _ _ S fun vs H1 ⟨H01, F1, u, b1, r⟩ => ?_
  cases r with
  | cons r1 n1 t1 =>
    cases t1 with
    | cons r2 n2 t2 =>
      cases t2 with
      | cons r3 n3 t3 =>
        cases t3
        refine ⟨_, _, _, rfl, f _ _ _ _ (((b1.s.stow (lt_of h1) r1).stow (by rw [List.length_set]; exact lt_of h2) (r2.stow fun a m => ?_)).stow (by rw [List.length_set, List.length_set]; exact lt_of h3) ((r3.stow fun a m => ?_).stow fun a m => ?_)) (((b1.g.stow r1.new).stow r2.new).stow r3.new)⟩
        · have := n1 a m
          simp only [List.mem_append, not_or] at this
          exact this.1
        · have := n1 a m
          simp only [List.mem_append, not_or] at this
          exact this.2.1
        · simpa using n2 a m
/-- return -/
theorem sr_ret (he : EV X env e d env1 p1) (h : Q env1 (.rt d)) : SR X env (.Return (some e) pos :: []) Q :=
  .of (pss_one (ps_ret pe_ev)) fun σ H0 H F D S f => tEV.go he S fun v H01 H1 F1 b1 d1 => f _ _ σ _ _ _ h b1.s b1.g v d1
theorem sr_retN (h : Q env (.rt .none)) : SR X env [.Return none pos] Q := .of (pss_one ps_retN) fun σ H0 H F D S f => f _ _ σ _ _ _ h S .refl _ .non
theorem sr_brk (h : Q env .bk) : SR X env [.Break pos] Q := .of (pss_one ps_break) fun σ H0 H F D S f => f _ _ σ _ _ _ h S .refl
theorem sr_cnt (h : Q env .ct) : SR X env [.Continue pos] Q := .of (pss_one ps_continue) fun σ H0 H F D S f => f _ _ σ _ _ _ h S .refl
theorem sr_pass (hr : SR X env rest Q) : SR X env (.Pass pos :: rest) Q := sr_cons ps_pass hr fun σ H0 H F D S f => f σ H0 H F S .refl
/-- an object of the def's own -/
theorem sr_retO {Φ : Own} (he : EG X env e (.own Φ) env1 p1) (h : Q env1 (.ro Φ)) : SR X env (.Return (some e) pos :: []) Q :=
  .of (pss_one (ps_ret pe_eg)) fun σ H0 H F D S f => tEG.go he S fun v H01 H1 F1 fr b1 r1 => f _ _ σ _ _ _ h b1.s b1.g v fr r1
/-- e dropped -/
theorem sr_expr (he : EV X env e d env1 p1) (hr : SR X env1 rest Q) (hs : swapsWith e none pos.line X.env = pure false := by rfl) : SR X env (.Expr e pos :: rest) Q :=
  sr_cons (ps_expr pe_ev hs) hr fun σ H0 H F D S f => tEV.go he S fun v H01 H1 F1 b1 d1 => f σ _ _ _ b1.s b1.g
/-- how a branch ends that more may follow -/
def QS (X : Cx) (rest : List Stmt) (Q : List Sv → Oc → Prop) : List Sv → Oc → Prop := fun env oc => match oc with
  | .nx => SR X env rest Q
  | oc => Q env oc
theorem sr_if (hc : ET X env c ba env1 p1) (ht : ba = true → SR X env1 a (QS X rest Q)) (hf : ba = false → SR X env1 b (QS X rest Q)) : SR X env (.If c a b pos :: rest) Q := by
  refine .of (pss_cons (ps_if pt_et pss_sr pss_sr) pss_sr) fun σ H0 H F D S f => tET.go hc S fun H01 H1 F1 b1 => ?_
  have f1 := f.step b1.g b1.s.goS
  have go : ∀ {q : List Stmt}, SR X env1 q (QS X rest Q) → tSR X q { D with nx := tSR X rest D } σ H1 := fun {q} h => tSR.go b1.s h fun envM oc σ2 H02 H2 F2 z S2 g2 => by
    cases oc with
    | nx => exact tSR.go S2 z (f1.step g2 S2.goS)
    | rt d => exact f1 _ _ σ2 H02 H2 F2 z S2 g2
    | bk => exact f1 _ _ σ2 H02 H2 F2 z S2 g2
    | ct => exact f1 _ _ σ2 H02 H2 F2 z S2 g2
    | ro Φ => exact f1 _ _ σ2 H02 H2 F2 z S2 g2
  cases ba with
  | true => exact iteT (go (ht rfl))
  | false => exact iteF (go (hf rfl))
/-- how a loop's turn ends -/
def QL (X : Cx) (rest : List Stmt) (Q : List Sv → Oc → Prop) (I : List Sv → Prop) : List Sv → Oc → Prop := fun env oc => match oc with
  | .nx => I env
  | .ct => I env
  | .bk => SR X env rest Q
  | .rt d => Q env (.rt d)
  | .ro Φ => Q env (.ro Φ)
/-- for: I k ahead of turn k -/
theorem sr_for {g : List Nat} {t : TgS} (I : Nat → List Sv → Prop) (hp : PassesOwn (model X.prog X.w) X.A X.env X.xe) (hc : X.calm = true) (hi : IV X env tg it its env1 p1 g) (hg : PG X tg (gOf X.K t)) (h0 : I 0 env1) (hgs : ∀ k e, I k e → ∀ j ∈ g, e[j]? = env1[j]?)
    (hb : ∀ k d e, its[k]? = some d → I k e → ∃ envT, setS t d e = some envT ∧ SR X envT body (QL X rest Q (I (k + 1)))) (hr : ∀ e, I its.length e → SR X e rest Q)
    (hs : ∀ x, foldedSetIterable it X.env x = pure x := by intro _; rfl) : SR X env (.For tg it body [] pos :: rest) Q := by
  obtain ⟨wi, pi, hw⟩ := hi.run
  refine .of (pss_cons (ps_for hp hc pi hg pss_sr hs) pss_sr) fun σ H0 H F D S f => hw _ _ _ _ _ S fun J H01 H1 F1 b1 J1 => ?_
  refine ⟨fun k m σ' H' => m = its.length - k ∧ k ≤ its.length ∧ ∃ e H0' F', I k e ∧ Sl X.K e σ' H0' H' F' ∧ Go H0 H F H0' H' F' ∧ Same H01 H0', ⟨its.length, rfl, Nat.zero_le _, env1, H01, F1, h0, b1.s, b1.g, .refl _⟩, ?_⟩
  rintro k m σ' H' ⟨rfl, hk, e, H0', F', hI, S', g', e'⟩
  by_cases hlt : k < its.length
  case neg =>
    have ek : k = its.length := by omega
    subst ek
    exact .inl ⟨J1.stop _ _ _ _ _ S' (hgs _ _ hI) e', tSR.go S' (hr e hI) (f.step g' S'.goS)⟩
  have hd : its[k]? = some its[k] := List.getElem?_eq_getElem hlt
  generalize its[k] = d at hd
  obtain ⟨envT, hT, hB⟩ := hb k d e hd hI
  refine .inr ⟨J1.go k _ _ _ _ _ S' (hgs _ _ hI) e' hlt, fun σ2 H2 => ∃ e H02 F2, I (k + 1) e ∧ Sl X.K e σ2 H02 H2 F2 ∧ Go H0 H F H02 H2 F2 ∧ Same H01 H02, fun σ2 H2 z => ⟨its.length - (k + 1), by omega, rfl, hlt, z⟩, fun x H2 hy => ?_⟩
  obtain ⟨H02, n2, dx⟩ := J1.yld k d _ _ _ _ _ x H2 S' (hgs _ _ hI) e' hd hy
  have S2 := S'.new n2
  refine setS_ok t hT S2 dx fun σ3 S3 _ _ => tSR.go S3 hB fun e4 oc σ4 H04 H4 F4 z S4 g4 => ?_
  have g5 := (g'.trans S'.goS n2.go).trans S2.goS g4
  cases oc with
  | nx => exact ⟨e4, H04, F4, z, S4, g5, (e'.trans n2.ex).trans g4.ex⟩
  | ct => exact ⟨e4, H04, F4, z, S4, g5, (e'.trans n2.ex).trans g4.ex⟩
  | bk => exact tSR.go S4 z (f.step g5 S4.goS)
  | rt d => exact f _ _ _ _ _ _ z S4 g5
  | ro Φ => exact fun v fr r => f _ _ _ _ _ _ z S4 g5 v fr (r.weak (g'.trans S'.goS n2.go).there)
/-- while: I m ahead of a test -/
theorem sr_while (I : Nat → List Sv → Prop) (hp : PassesOwn (model X.prog X.w) X.A X.env X.xe) (m0 : Nat) (h0 : I m0 env) (hb : ∀ m e, I m e → ∃ ba e1 p, ET X e c ba e1 p ∧ (ba = true → SR X e1 body (QL X rest Q fun e2 => ∃ m', m' < m ∧ I m' e2)) ∧ (ba = false → SR X e1 rest Q)) :
    SR X env (.While c body [] pos :: rest) Q := by
  refine .of (pss_cons (ps_while hp pt_et pss_sr) pss_sr) fun σ H0 H F D S f => ?_
  refine ⟨fun m σ' H' => ∃ e H0' F', I m e ∧ Sl X.K e σ' H0' H' F' ∧ Go H0 H F H0' H' F', ⟨m0, env, H0, F, h0, S, .refl⟩, ?_⟩
  rintro m σ' H' ⟨e, H0', F', hI, S', g'⟩
  obtain ⟨ba, e1, p, ht, hy, hn⟩ := hb m e hI
  refine tET.go ht S' fun H02 H2 F2 b2 => ?_
  have g2 := g'.trans S'.goS b2.g
  cases ba with
  | false => exact iteF (tSR.go b2.s (hn rfl) (f.step g2 b2.s.goS))
  | true =>
    refine iteT ⟨fun σ2 H2 => ∃ m', m' < m ∧ ∃ e H02 F2, I m' e ∧ Sl X.K e σ2 H02 H2 F2 ∧ Go H0 H F H02 H2 F2, fun σ2 H2 ⟨m', hm, z⟩ => ⟨m', hm, z⟩, tSR.go b2.s (hy rfl) fun e4 oc σ4 H04 H4 F4 z S4 g4 => ?_⟩
    have g5 := g2.trans b2.s.goS g4
    cases oc with
    | nx => obtain ⟨m', hm, z⟩ := z; exact ⟨m', hm, e4, H04, F4, z, S4, g5⟩
    | ct => obtain ⟨m', hm, z⟩ := z; exact ⟨m', hm, e4, H04, F4, z, S4, g5⟩
    | bk => exact tSR.go S4 z (f.step g5 S4.goS)
    | rt d => exact f _ _ _ _ _ _ z S4 g5
    | ro Φ => exact fun v fr r => f _ _ _ _ _ _ z S4 g5 v fr (r.weak g2.there)
end
end Pu
end
section
set_option Elab.async false
set_option linter.all false
set_option maxRecDepth 100000
set_option maxHeartbeats 2000000
namespace Pu
open PySem PySem.Spec L2

/-! ### slots told otherwise -/
section
variable {K : PySem.W.Frag} {env env' : List Sv} {σ : St} {H0 H : Hp} {F : Fp} {i : Nat} {l : Addr} {ds : List PyData} {Φ : Own}
/-- a list of one's own is shared, from here on -/
theorem Sl.freeze (S : Sl K env σ H0 H F) (e : env[i]? = some (.own (lstA K l ds))) : ∃ H0', Sl K (env.set i (.dat (.list ds))) σ H0' H (setF F i []) ∧ Go H0 H F H0' H (setF F i []) := by
  obtain ⟨v, hv, rfl, hF, xs, hl, hd⟩ := S.ok i _ e
  have n0 : H0 l = none := (S.out i l (by rw [hF]; simp)).1
  have e1 : Same H0 (upd H0 l (.lst xs)) := same_upd n0 _
  have nf : ∀ j, j ≠ i → l ∉ F j := fun j hj m => hj (S.dis j i l m (by rw [hF]; simp))
  have sub : Same (upd H0 l (.lst xs)) H := fun a u q => by
    by_cases z : a = l
    · subst z; rw [upd_same] at q; rw [hl]; exact q
    · rw [upd_ne z] at q; exact S.ex a u q
  refine ⟨upd H0 l (.lst xs), ⟨sub, by rw [List.length_set]; exact S.len, fun j sv h => ?_, fun j a m => ?_, fun j k a m m' => ?_, fun j h => ?_⟩, e1, fun a o h _ => h, fun a o h n k => ⟨?_, fun j m => ?_⟩, fun a o h => ⟨o, h⟩⟩
  · by_cases q : i = j
    · subst q
      have hj : i < env.length := (List.getElem?_eq_some_iff.mp e).1
      rw [List.getElem?_set_self hj] at h
      cases h
      exact ⟨_, hv, .lst upd_same (DqAllM hd e1)⟩
    · rw [List.getElem?_set_ne q] at h
      have k := S.ok j sv h
      have fj : setF F i [] j = F j := if_neg (Ne.symm q)
      rw [fj]
      cases sv with
      | non => trivial
      | dat d => obtain ⟨v, a1, a2⟩ := k; exact ⟨v, a1, DqM a2 e1⟩
      | own Φ => obtain ⟨v, a1, a2⟩ := k; exact ⟨v, a1, Φ.st a2 e1 fun a _ o e => e⟩
  · unfold setF at m
    split at m
    · simp at m
    · rename_i q
      have z : a ≠ l := fun w => nf j q (w ▸ m)
      rw [upd_ne z]
      exact S.out j a m
  · unfold setF at m m'
    split at m
    · simp at m
    · split at m'
      · simp at m'
      · exact S.dis j k a m m'
  · unfold setF
    by_cases q : i = j
    · rw [if_pos q.symm]
    · rw [if_neg (Ne.symm q)]
      exact S.nil j (by rwa [List.getElem?_set_ne q] at h)
  · have z : a ≠ l := fun w => k i (by rw [hF, w]; simp)
    rw [upd_ne z]
    exact n
  · unfold setF at m
    split at m
    · simp at m
    · exact k j m
/-- a slot is told by another word -/
theorem Sl.recast (S : Sl K env σ H0 H F) (e : env[i]? = some (.own Φ)) {Ψ : Own} (h : ∀ v, σ[i]? = some (some v) → Φ.P v H0 H (F i) → Ψ.P v H0 H (F i)) : Sl K (env.set i (.own Ψ)) σ H0 H F := by
  have hi : i < env.length := (List.getElem?_eq_some_iff.mp e).1
  refine ⟨S.ex, by rw [List.length_set]; exact S.len, fun j sv q => ?_, S.out, S.dis, fun j q => ?_⟩
  · by_cases z : i = j
    · subst z
      rw [List.getElem?_set_self hi] at q
      cases q
      obtain ⟨v, a1, a2⟩ := S.ok i _ e
      exact ⟨v, a1, h v a1 a2⟩
    · rw [List.getElem?_set_ne z] at q
      exact S.ok j sv q
  · by_cases z : i = j
    · subst z
      exact absurd (List.getElem?_set_self hi) (q Ψ)
    · exact S.nil j (by rwa [List.getElem?_set_ne z] at q)
/-- what a slot holds is forgotten -/
theorem Sl.drop (S : Sl K env σ H0 H F) (i : Nat) : Sl K (env.set i .non) σ H0 H (setF F i []) := by
  refine ⟨S.ex, by rw [List.length_set]; exact S.len, fun j sv q => ?_, fun j a m => ?_, fun j k a m m' => ?_, fun j q => ?_⟩
  · by_cases z : i = j
    · subst z
      rw [List.getElem?_set] at q
      split at q
      · split at q
        · cases q; trivial
        · cases q
      · rename_i n; exact absurd rfl n
    · rw [List.getElem?_set_ne z] at q
      have fj : setF F i [] j = F j := if_neg (Ne.symm z)
      rw [fj]
      exact S.ok j sv q
  · unfold setF at m
    split at m
    · simp at m
    · exact S.out j a m
  · unfold setF at m m'
    split at m
    · simp at m
    · split at m'
      · simp at m'
      · exact S.dis j k a m m'
  · unfold setF
    by_cases z : i = j
    · rw [if_pos z.symm]
    · rw [if_neg (Ne.symm z)]
      exact S.nil j (by rwa [List.getElem?_set_ne z] at q)
theorem go_drop {i : Nat} : Go H0 H F H0 H (setF F i []) := ⟨.refl _, fun _ _ h _ => h, fun a _ _ n f => ⟨n, fun j m => by
  unfold setF at m
  split at m
  · simp at m
  · exact f j m⟩, fun _ o h => ⟨o, h⟩⟩
end
section
variable {X : Cx} {env env1 env2 : List Sv} {Q : List Sv → Oc → Prop} {sts rest : List Stmt} {e o ix : Expr} {d : PyData} {ds : List PyData} {p1 p2 : Bool} {pos apos cpos tpos : Pos} {i j l : Nat} {x : Str} {Φ : Own}
theorem sr_ghost (h : ∀ σ H0 H F, Sl X.K env σ H0 H F → ∃ env1 H0' F', Sl X.K env1 σ H0' H F' ∧ Go H0 H F H0' H F' ∧ SR X env1 sts Q) : SR X env sts Q := ⟨fun pins s σ H0 H F D I S f => by
  obtain ⟨env1, H0', F', S1, g, hr⟩ := h σ H0 H F S
  exact hr.run pins s σ H0' H F' D I S1 (f.step g S1.goS)⟩
theorem sr_freeze (i : Nat) {l : Addr} (hi : env[i]? = some (.own (lstA X.K l ds))) (hr : SR X (env.set i (.dat (.list ds))) sts Q) : SR X env sts Q := sr_ghost fun σ H0 H F S => by
  obtain ⟨H0', S', g⟩ := S.freeze hi
  exact ⟨_, H0', _, S', g, hr⟩
theorem sr_open (i : Nat) (hi : env[i]? = some (.own (lstO X.K ds))) (hr : ∀ l, SR X (env.set i (.own (lstA X.K l ds))) sts Q) : SR X env sts Q := sr_ghost fun σ H0 H F S => by
  obtain ⟨v, hv, l, hp⟩ := S.ok i _ hi
  refine ⟨_, H0, F, S.recast hi (Ψ := lstA X.K l ds) fun w hw _ => ?_, .refl, hr l⟩
  rw [hv] at hw
  cases hw
  exact hp
theorem sr_drop (i : Nat) (hr : SR X (env.set i .non) sts Q) : SR X env sts Q := sr_ghost fun σ H0 H F S => ⟨_, H0, _, S.drop i, go_drop, hr⟩
theorem sr_cast (h : SR X env1 sts Q) (e : env1 = env) : SR X env sts Q := e ▸ h
/-! ### lists of one's own, changed -/
theorem Sl.change {K : PySem.W.Frag} {σ : St} {H0 H : Hp} {F : Fp} {l : Addr} {ds es : List PyData} {xs : List V} (S : Sl K env σ H0 H F) (hi : env[i]? = some (.own (lstA K l ds))) (hd : DqAll K H0 xs es) : Sl K (env.set i (.own (lstA K l es))) σ H0 (upd H l (.lst xs)) F ∧ Go H0 H F H0 (upd H l (.lst xs)) F := by
  obtain ⟨v, hv, rfl, hF, ys, hl, _⟩ := S.ok i _ hi
  have hm : l ∈ F i := by rw [hF]; simp
  have n0 : H0 l = none := (S.out i l hm).1
  have ilt : i < env.length := (List.getElem?_eq_some_iff.mp hi).1
  have n1 : ∀ a u, H0 a = some u → a ≠ l := fun a u q w => by rw [w, n0] at q; cases q
  refine ⟨⟨fun a u q => by rw [upd_ne (n1 a u q)]; exact S.ex a u q, by rw [List.length_set]; exact S.len, fun j sv h => ?_, fun j a m => ⟨(S.out j a m).1, ?_⟩, S.dis, fun j h => ?_⟩, .refl _, fun a o h k => ?_, fun a o h n k => ⟨n, k⟩, fun a o h => ?_⟩
  · by_cases q : i = j
    · subst q
      rw [List.getElem?_set_self ilt] at h
      cases h
      exact ⟨_, hv, rfl, hF, xs, upd_same, hd⟩
    · rw [List.getElem?_set_ne q] at h
      have k := S.ok j sv h
      cases sv with
      | non => trivial
      | dat d => exact k
      | own Φ =>
        obtain ⟨v, a1, a2⟩ := k
        exact ⟨v, a1, Φ.st a2 (.refl _) fun a m o e => by
          have : a ≠ l := fun w => q (S.dis i j l hm (w ▸ m))
          rw [upd_ne this]
          exact e⟩
  · by_cases q : a = l
    · subst q; exact ⟨_, upd_same⟩
    · rw [upd_ne q]; exact (S.out j a m).2
  · refine S.nil j ?_
    by_cases q : i = j
    · subst q
      exact absurd (List.getElem?_set_self ilt) (h _)
    · rwa [List.getElem?_set_ne q] at h
  · rw [upd_ne fun w => k i (by rw [w]; exact hm)]
    exact h
  · by_cases q : a = l
    · subst q; exact ⟨_, upd_same⟩
    · rw [upd_ne q]; exact ⟨o, h⟩
theorem sr_append {l : Addr} (hN : X.N[i]? = some x) (hv : Vis X.env.scope x) (he : EV X env e d env1 p1) (hi0 : ∃ ds0, env[i]? = some (.own (lstA X.K l ds0))) (hi : env1[i]? = some (.own (lstA X.K l ds))) (hz : ds.length < sizeLine) (hr : SR X (env1.set i (.own (lstA X.K l (ds ++ [d])))) rest Q) {np : Pos}
    (hd1 : (x == ("__debug__" : Str)) = false := by decide) (hcd : (x == ("__classdict__" : Str)) = false := by decide) (hs : swapsWith (.Call (.Attribute (.Name x np) "append" apos) [e] [] cpos) none pos.line X.env = pure false := by rfl)
    (hbase : attributeBase (.Name x np) "append" X.env (eval (.Name x np) X.env) = eval (.Name x np) X.env := by rfl)
    (hfew : ((backTo cpos (starEach [e] X.env)).all (fun x => !x.1) && (backToKw cpos (keywordEach [] X.env)).all (fun x => x.1.isSome) && decide ([e].length + ([] : List Keyword).length + (if ([] : List Keyword).isEmpty then 0 else 1) < 30)) = true := by rfl)
    (hline : (apos.endLine == cpos.line) = true := by rfl) (hse : starEach [e] X.env = (false, eval e X.env) :: starEach [] X.env := by rfl) (hpl : (backTo cpos (starEach [] X.env)).any (·.1) = false := by rfl) :
    SR X env (.Expr (.Call (.Attribute (.Name x np) "append" apos) [e] [] cpos) pos :: rest) Q := by
  refine sr_cons (ps_expr (pe_bm PySem.F.plainAttrs_list PySem.F.slot_list_append PySem.F.type_list_append mt_append (pe_var hN hv hd1 hcd) (pa_cons pe_ev pa_nil hse) hbase hfew hline hse hpl) hs) hr fun σ H0 H F D S f => ?_
  obtain ⟨ds0, hi0⟩ := hi0
  obtain ⟨v, hv, rfl, hF, xs, hl, _⟩ := S.ok i _ hi0
  refine ⟨_, hv, .inl ⟨rfl, xs, SqL.of hl⟩, tEV.go he S fun u H01 H1 F1 b1 d1 => ?_⟩
  obtain ⟨v', hv', rfl, hF', xs', hl', hd'⟩ := b1.s.ok i _ hi
  refine ⟨l, xs', u, rfl, rfl, hl', by rw [da_len hd']; exact hz, ?_⟩
  obtain ⟨S2, g2⟩ := b1.s.change hi (da_app hd' (.cons d1 .nil))
  exact f σ _ _ _ S2 (b1.g.trans b1.s.goS g2)
/-- xs[k] of a list of one's own -/
theorem ev_ixO {l : Addr} {k : Int} {p : Pos} (hN : X.N[i]? = some x) (hv : Vis X.env.scope x) (hi : env[i]? = some (.own (lstA X.K l ds))) (hb : EV X env ix (.int k) env true) (e : atI ds k = some d) (hs : PlainIx ix := by intro _ _; rfl) (hd1 : (x == ("__debug__" : Str)) = false := by decide) (hcd : (x == ("__classdict__" : Str)) = false := by decide) :
    EV X env (.Subscript (.Name x p) ix pos) d env true :=
  .of (pe_ix ix_list (pe_var hN hv hd1 hcd) pe_ev hs) fun σ H0 H F S => by
    obtain ⟨v, hv, rfl, hF, xs, hl, _⟩ := S.ok i _ hi
    refine ⟨_, hv, tEV.go hb S fun y H02 H2 F2 b2 d2 => ?_⟩
    cases d2
    obtain ⟨v', hv', rfl, hF', xs', hl', hd'⟩ := b2.s.ok i _ hi
    obtain ⟨w, e1, hw⟩ := atI_da hd' e
    exact ⟨_, _, _, w, rfl, rfl, SqL.of hl', e1, .mk b2 hw⟩
/-- xs[k] = e -/
theorem sr_put {l : Addr} {k : Int} {n : Nat} {np : Pos} (hN : X.N[i]? = some x) (hv : Vis X.env.scope x) (he : EV X env e d env1 p1) (hi : env1[i]? = some (.own (lstA X.K l ds))) (hb : EV X env1 ix (.int k) env1 true) (hk : ixN ds.length k = some n) (hr : SR X (env1.set i (.own (lstA X.K l (ds.set n d)))) rest Q)
    (hd1 : (x == ("__debug__" : Str)) = false := by decide) (hcd : (x == ("__classdict__" : Str)) = false := by decide)
    (ha : ∀ v, assign (.Subscript (.Name x np) ix tpos) X.env v = (do
      let ov ← holding [v] (eval (.Name x np) X.env)
      let iv ← holding [v, ov] (eval ix X.env)
      standAt tpos
      holding [v, ov, iv] (setItem ov iv v)
      release [v, ov, iv] []) := by intro _; rfl)
    (hs : swapsWithSole [.Subscript (.Name x np) ix tpos] e pos.line X.env = pure false := by rfl) (hw : swappedStores [.Subscript (.Name x np) ix tpos] e X.env = pure none := by rfl)
    (h1 : (assignEach [.Subscript (.Name x np) ix tpos] X.env).map (·.2) = [assign (.Subscript (.Name x np) ix tpos) X.env] := by rfl) : SR X env (.Assign [.Subscript (.Name x np) ix tpos] e pos :: rest) Q :=
  sr_cons (ps_asg pe_ev (pg_sub (pe_var hN hv hd1 hcd) pe_ev set_list ha) hs hw h1) hr fun σ H0 H F D S f => tEV.go he S fun u H01 H1 F1 b1 d1 => by
    obtain ⟨v, hv, rfl, hF, xs, hl, _⟩ := b1.s.ok i _ hi
    refine ⟨_, hv, tEV.go hb b1.s fun y H02 H2 F2 b2 d2 => ?_⟩
    cases d2
    obtain ⟨v', hv', rfl, hF', xs', hl', hd'⟩ := b2.s.ok i _ hi
    obtain ⟨S2, g2⟩ := b2.s.change hi (da_set (DqM d1 b2.g.ex) n hd')
    exact ⟨l, xs', k, n, rfl, rfl, hl', by rw [da_len hd']; exact hk, f σ _ _ _ S2 ((b1.g.trans b1.s.goS b2.g).trans b2.s.goS g2)⟩
end
end Pu
end
section
set_option Elab.async false
set_option linter.all false
set_option maxRecDepth 100000
set_option maxHeartbeats 2000000
namespace Pu
open PySem PySem.Spec L2
open PyProof.Rows (envOfC)

/-! ### defs -/
def one (f : List Addr) : Fp := fun j => if j = 0 then f else []
theorem one_mem {f : List Addr} {i : Nat} {a : Addr} (m : a ∈ one f i) : a ∈ f := by
  unfold one at m
  split at m
  · exact m
  · simp at m
theorem one_no {f : List Addr} {a : Addr} (n : a ∉ f) : ∀ i, a ∉ one f i := fun i m => n (one_mem m)
section
variable {K : PySem.W.Frag} {env env' : List Sv} {σ : St} {H0 H H0' H' : Hp} {F : Fp} {i : Nat} {f' : List Addr} {Φ Φ' : Own} {v : V}
/-- what stands in slot i has changed, nothing else of the frame -/
theorem Sl.sub (S : Sl K env σ H0 H F) (hi : i < env.length) (g : Go H0 H (one (F i)) H0' H' (one f')) (e : Same H0' H') (hv : σ[i]? = some (some v)) (hp : Φ'.P v H0' H' f') (hf : ∀ a ∈ f', H0' a = none ∧ ∃ o, H' a = some o) :
    Sl K (env.set i (.own Φ')) σ H0' H' (setF F i f') ∧ Go H0 H F H0' H' (setF F i f') := by
  have nf : ∀ j, j ≠ i → ∀ a ∈ F j, ∀ k, a ∉ one (F i) k := fun j hj a m => one_no fun n => hj (S.dis j i a m n)
  refine ⟨⟨e, by rw [List.length_set]; exact S.len, fun j sv h => ?_, fun j a m => ?_, fun j k a m m' => ?_, fun j h => ?_⟩, g.ex, fun a o h n => g.keep a o h (one_no (n i)), fun a o h n k => ⟨(g.apart a o h n (one_no (k i))).1, fun j m => ?_⟩, g.there⟩
  · by_cases q : i = j
    · subst q
      rw [List.getElem?_set_self hi] at h
      cases h
      exact ⟨v, hv, by rw [show setF F i f' i = f' from if_pos rfl]; exact hp⟩
    · rw [List.getElem?_set_ne q] at h
      have k := S.ok j sv h
      rw [show setF F i f' j = F j from if_neg (Ne.symm q)]
      cases sv with
      | non => trivial
      | dat d => obtain ⟨v, a1, a2⟩ := k; exact ⟨v, a1, DqM a2 g.ex⟩
      | own Ψ => obtain ⟨v, a1, a2⟩ := k; exact ⟨v, a1, Ψ.st a2 g.ex fun a m o e => g.keep a o e (nf j (Ne.symm q) a m)⟩
  · unfold setF at m
    split at m
    · exact hf a m
    · rename_i q
      obtain ⟨n, o, h⟩ := S.out j a m
      exact ⟨(g.apart a o h n (nf j q a m)).1, g.there a o h⟩
  · have other : ∀ j, j ≠ i → a ∈ F j → a ∉ f' := fun j q m n => by
      obtain ⟨n0, o, h⟩ := S.out j a m
      exact (g.apart a o h n0 (nf j q a m)).2 0 (by unfold one; rw [if_pos rfl]; exact n)
    unfold setF at m m'
    split at m
    · rename_i q
      split at m'
      · rename_i q'; rw [q, q']
      · rename_i q'; exact absurd m (other k q' m')
    · rename_i q
      split at m'
      · exact absurd m' (other j q m)
      · exact S.dis j k a m m'
  · unfold setF
    by_cases q : i = j
    · subst q
      exact absurd (List.getElem?_set_self hi) (h Φ')
    · rw [if_neg (Ne.symm q)]
      exact S.nil j (by rwa [List.getElem?_set_ne q] at h)
  · unfold setF at m
    split at m
    · exact (g.apart a o h n (one_no (k i))).2 0 (by unfold one; rw [if_pos rfl]; exact m)
    · exact k j m
end

/-- the slots at a def's entry -/
def entry (N : List Str) (svs : List Sv) : List Sv := svs ++ List.replicate (N.length - svs.length) .non
theorem entry_dat {N : List Str} {ds : List PyData} {j : Nat} {d : PyData} (h : ds[j]? = some d) : (entry N (ds.map Sv.dat))[j]? = some (.dat d) := by
  have hj : j < ds.length := (List.getElem?_eq_some_iff.mp h).1
  unfold entry
  rw [List.getElem?_append_left (by simpa using hj), List.getElem?_map, h]
  rfl
theorem sl_entry {K : PySem.W.Frag} {N : List Str} {vs : List V} {ds : List PyData} {H0 H : Hp} (e : Same H0 H) (h : DqAll K H0 vs ds) : Sl K (entry N (ds.map Sv.dat)) (L2.start N vs) H0 H (fun _ => []) := by
  have hl := da_len h
  refine ⟨e, by simp [entry, L2.start, hl], fun i sv q => ?_, fun i a m => by simp at m, fun i j a m => by simp at m, fun i _ => rfl⟩
  unfold entry at q
  rw [List.getElem?_append] at q
  split at q
  · rename_i hi
    rw [List.getElem?_map] at q
    cases hd : ds[i]? with
    | none => rw [hd] at q; cases q
    | some d =>
      rw [hd] at q
      cases q
      obtain ⟨v, hv, hdq⟩ := da_at h hd
      refine ⟨v, ?_, hdq⟩
      unfold L2.start
      rw [List.getElem?_append_left (by simpa [hl] using hi), List.getElem?_map, hv]
      rfl
  · rw [List.getElem?_replicate] at q
    split at q
    · cases q; trivial
    · cases q
section
variable {P : Program} {w : World} {K : PySem.W.Frag} {mg : Str → Option Value} {base : Heap} {x qual : Str} {st : Stmt} {fa : Addr} {fd : FuncData} {N ps : List Str} {k : Nat}
/-- a body ends by return, or by its end -/
def QR (d : PyData) : List Sv → Oc → Prop := fun _ oc => oc = .rt d ∨ (oc = .nx ∧ d = .none)
theorem qr {e : List Sv} {d d' : PyData} (h : d' = d) : QR d e (.rt d') := .inl (by rw [h])
theorem fn_pure {C : List PyData → PyData → Prop} (F : Fun K x qual st fa fd) (S : FnScope N ps (defScope st)) (hlen : ∀ ds d, C ds d → ds.length = ps.length)
    (hbody : ∀ (cdv : Value) (A : Around) (outer : List Env) (s : Shared) (H : Hp) (E : XK), Room k (A.deeper (envOfC qual (defScope st) s.heap.objs.size fa cdv)) → ∀ ds d, C ds d → SR (cxOf CX0 P w K mg base N qual (defScope st) fa cdv A outer s H E).nox (entry N (ds.map Sv.dat)) (defBody st) (QR d)) :
    FnOk P w K mg base CX0 (k + 1) fa fd ps (spP K C) := by
  refine F.ok S (fun vs H Q E ⟨H0, ds, d, hC, e, hd, _⟩ => by rw [da_len hd]; exact hlen ds d hC) (fun cdv A outer s H vs Q E hr ⟨H0, ds, d, hC, e, hd, q⟩ => ?_)
  have h := hbody cdv A outer s H E hr ds d hC
  refine ⟨_, pss_sr, tSR.go (sl_entry (N := N) e hd) h fun env' oc σ' H0' H' F' z S' g => ?_⟩
  have new : New H0 H H0' H' := ⟨g.ex, S'.ex, fun a o h => g.keep a o h (by simp), fun a o h n => (g.apart a o h n (by simp)).1⟩
  rcases z with rfl | ⟨rfl, rfl⟩
  · exact fun v hv => q v H0' H' new hv
  · exact q .non H0' H' new .non

/-- a def whose first argument is an object of the caller's own -/
def spO (K : PySem.W.Frag) (C : Own → List PyData → PyData → Own → Prop) : Sp := fun vs H Q _ => ∃ Φ ds d Φ' H0 v0 f rest, vs = v0 :: rest ∧ C Φ ds d Φ' ∧ Same H0 H ∧ Φ.P v0 H0 H f ∧ (∀ a ∈ f, H0 a = none ∧ ∃ o, H a = some o) ∧ DqAll K H0 rest ds ∧
  ∀ v H0' H' f', Same H0' H' → Go H0 H (one f) H0' H' (one f') → Φ'.P v0 H0' H' f' → (∀ a ∈ f', H0' a = none ∧ ∃ o, H' a = some o) → Dq K H0' v d → Q v H'
/-- both stand at one address -/
def Fix (Φ Φ' : Own) : Prop := ∃ p, (∀ v H0 H F, Φ.P v H0 H F → v = .ref p) ∧ ∀ v H0 H F, Φ'.P v H0 H F → v = .ref p
theorem sl_entryO {v0 : V} {vs : List V} {ds : List PyData} {H0 H : Hp} {Φ : Own} {f : List Addr} (e : Same H0 H) (hp : Φ.P v0 H0 H f) (hf : ∀ a ∈ f, H0 a = none ∧ ∃ o, H a = some o) (h : DqAll K H0 vs ds) : Sl K (entry N (.own Φ :: ds.map Sv.dat)) (L2.start N (v0 :: vs)) H0 H (one f) := by
  have hl := da_len h
  refine ⟨e, by simp [entry, L2.start, hl], fun i sv q => ?_, fun i a m => hf a (one_mem m), fun i j a m m' => ?_, fun i n => ?_⟩
  · cases i with
    | zero =>
      have q : some (Sv.own Φ) = some sv := q
      cases q
      exact ⟨v0, rfl, hp⟩
    | succ i =>
      have q : (ds.map Sv.dat ++ List.replicate (N.length - (ds.length + 1)) Sv.non)[i]? = some sv := by simpa [entry] using q
      rw [List.getElem?_append] at q
      split at q
      · rename_i hi
        rw [List.getElem?_map] at q
        cases hd : ds[i]? with
        | none => rw [hd] at q; cases q
        | some d =>
          rw [hd] at q
          cases q
          obtain ⟨v, hv, hdq⟩ := da_at h hd
          refine ⟨v, ?_, hdq⟩
          have hi' : i < vs.length := by rw [hl]; simpa using hi
          have hv' := (List.getElem?_eq_some_iff.mp hv).2
          simp [L2.start, List.getElem?_append_left, hi', hv']
      · rw [List.getElem?_replicate] at q
        split at q
        · cases q; trivial
        · cases q
  · unfold one at m m'
    split at m
    · split at m'
      · rename_i a b; rw [a, b]
      · simp at m'
    · simp at m
  · unfold one
    split
    · rename_i z
      subst z
      exact absurd rfl (n Φ)
    · rfl
theorem fn_own {C : Own → List PyData → PyData → Own → Prop} (F : Fun K x qual st fa fd) (S : FnScope N ps (defScope st)) (hlen : ∀ Φ ds d Φ', C Φ ds d Φ' → ds.length + 1 = ps.length) (hfix : ∀ Φ ds d Φ', C Φ ds d Φ' → Fix Φ Φ')
    (hbody : ∀ (cdv : Value) (A : Around) (outer : List Env) (s : Shared) (H : Hp) (E : XK), Room k (A.deeper (envOfC qual (defScope st) s.heap.objs.size fa cdv)) → ∀ Φ ds d Φ', C Φ ds d Φ' →
      SR (cxOf CX0 P w K mg base N qual (defScope st) fa cdv A outer s H E).nox (entry N (.own Φ :: ds.map Sv.dat)) (defBody st) fun e oc => e[0]? = some (.own Φ') ∧ QR d e oc) :
    FnOk P w K mg base CX0 (k + 1) fa fd ps (spO K C) := by
  refine F.ok S (fun vs H Q E ⟨Φ, ds, d, Φ', H0, v0, f, rest, hvs, hC, e, hp, hf, hd, _⟩ => by rw [hvs, List.length_cons, da_len hd]; exact hlen Φ ds d Φ' hC) (fun cdv A outer s H vs Q E hr ⟨Φ, ds, d, Φ', H0, v0, f, rest, hvs, hC, e, hp, hf, hd, q⟩ => ?_)
  subst hvs
  have h := hbody cdv A outer s H E hr Φ ds d Φ' hC
  obtain ⟨p, f1, f2⟩ := hfix Φ ds d Φ' hC
  refine ⟨_, pss_sr, tSR.go (sl_entryO (N := N) e hp hf hd) h fun env' oc σ' H0' H' F' z S' g => ?_⟩
  obtain ⟨h0, z⟩ := z
  have fin : ∀ v, Dq K H0' v d → Q v H' := fun v hv => by
    obtain ⟨v1, e1, p1⟩ := S'.ok 0 _ h0
    have : v1 = v0 := (f2 _ _ _ _ p1).trans (f1 _ _ _ _ hp).symm
    subst this
    exact q v H0' H' (F' 0) S'.ex ⟨g.ex, g.keep, fun a o h n k => ⟨(g.apart a o h n k).1, one_no ((g.apart a o h n k).2 0)⟩, g.there⟩ p1 (S'.out 0) hv
  rcases z with rfl | ⟨rfl, rfl⟩
  · exact fin
  · exact fin .non .non
end
section
variable {P : Program} {w : World} {K : PySem.W.Frag} {mg : Str → Option Value} {base : Heap} {x qual : Str} {st : Stmt} {fa : Addr} {fd : FuncData} {N ps : List Str} {k : Nat}
/-- a def of one thing that is read, the result a new object -/
def spN (K : PySem.W.Frag) (C : Own → Own → Prop) : Sp := fun vs H Q _ => ∃ Φ Φr H0 v0, vs = [v0] ∧ C Φ Φr ∧ Same H0 H ∧ Φ.P v0 H0 H [] ∧
  ∀ v H0' H' fr, New H0 H H0' H' → Φr.P v H0' H' fr → (∀ a ∈ fr, H a = none ∧ H0' a = none ∧ ∃ o, H' a = some o) → Q v H'
theorem fn_new {C : Own → Own → Prop} (F : Fun K x qual st fa fd) (S : FnScope N ps (defScope st)) (hlen : ps.length = 1)
    (hbody : ∀ (cdv : Value) (A : Around) (outer : List Env) (s : Shared) (H : Hp) (E : XK), Room k (A.deeper (envOfC qual (defScope st) s.heap.objs.size fa cdv)) → ∀ Φ Φr, C Φ Φr →
      SR (cxOf CX0 P w K mg base N qual (defScope st) fa cdv A outer s H E).nox (entry N [.own Φ]) (defBody st) fun e oc => oc = .ro Φr) :
    FnOk P w K mg base CX0 (k + 1) fa fd ps (spN K C) := by
  refine F.ok S (fun vs H Q E ⟨Φ, Φr, H0, v0, hvs, _⟩ => by rw [hvs, hlen]; rfl) (fun cdv A outer s H vs Q E hr ⟨Φ, Φr, H0, v0, hvs, hC, e, hp, q⟩ => ?_)
  subst hvs
  have h := hbody cdv A outer s H E hr Φ Φr hC
  have S0 := sl_entryO (K := K) (N := N) (ds := []) e hp (by simp) .nil
  have no : ∀ {a : Addr} (i : Nat), a ∉ one [] i := fun i => one_no (by simp) i
  refine ⟨_, pss_sr, tSR.go S0 h fun env' oc σ' H0' H' F' z S' g => ?_⟩
  subst z
  exact fun v fr r => q v H0' H' fr ⟨g.ex, S'.ex, fun a o h => g.keep a o h no, fun a o h n => (g.apart a o h n no).1⟩ r.1 fun a m => ⟨(r.2 a m).1, (r.2 a m).2.1, (r.2 a m).2.2.1⟩
end
section
variable {X : Cx} {env env1 : List Sv} {es : List Expr} {d : PyData} {ds : List PyData} {p1 : Bool} {pos pf np : Pos} {i : Nat} {f x : Str} {Φ Φ' : Own}
theorem ev_callO {k : Nat} {C : Own → List PyData → PyData → Own → Prop} (D : Df X.prog X.w X.K X.mg X.base k f (spO X.K C)) (hr : Room k X.A) (hN : X.N[i]? = some x) (hv : Vis X.env.scope x) (hi0 : ∃ Ψ, env[i]? = some (.own Ψ)) (ha : EA X env es ds env1 p1) (hi : env1[i]? = some (.own Φ)) (hfix : ∀ Ψ, env[i]? = some (.own Ψ) → Fix Ψ Φ)
    (hC : C Φ ds d Φ') (hg : Gl X f := by rfl)
    (hd1 : (x == ("__debug__" : Str)) = false := by decide) (hcd : (x == ("__classdict__" : Str)) = false := by decide)
    (hdb : (f == ("__debug__" : Str)) = false := by decide) (he : starEach (.Name x np :: es) X.env = (false, eval (.Name x np) X.env) :: starEach es X.env := by rfl) (hpl : (backTo pos (starEach es X.env)).any (·.1) = false := by rfl) :
    EV X env (.Call (.Name f pf) (.Name x np :: es) [] pos) d (env1.set i (.own Φ')) false := by
  obtain ⟨fa, fd, ps, F, hm, hk, hb⟩ := D.ex
  refine .of (pe_call F hr hg hm hk hb .nil pass0 (pa_cons (pe_var hN hv hd1 hcd) pa_ea he) hdb he hpl) fun σ H0 H F S => ?_
  obtain ⟨Ψ, hi0⟩ := hi0
  obtain ⟨v0, e0, q0⟩ := S.ok i _ hi0
  obtain ⟨p, f1, f2⟩ := hfix Ψ hi0
  refine ⟨v0, e0, tEA.go ha S fun vs H01 H1 F1 b1 d1 => ?_⟩
  show spO X.K C ((v0 :: vs) ++ []) H1 _ _
  rw [List.append_nil]
  obtain ⟨v1, e1, q1⟩ := b1.s.ok i _ hi
  have ev : v1 = v0 := (f2 _ _ _ _ q1).trans (f1 _ _ _ _ q0).symm
  subst ev
  refine ⟨Φ, ds, d, Φ', H01, v1, F1 i, vs, rfl, hC, b1.s.ex, q1, b1.s.out i, d1, fun v H0' H' f' e g hp hf hv => ?_⟩
  obtain ⟨S2, g2⟩ := b1.s.sub (List.getElem?_eq_some_iff.mp hi).1 g e e1 hp hf
  exact .mk ⟨S2, b1.g.trans b1.s.goS g2, nofun⟩ hv
theorem eg_callN {k : Nat} {C : Own → Own → Prop} (D : Df X.prog X.w X.K X.mg X.base k f (spN X.K C)) (hr : Room k X.A) (hN : X.N[i]? = some x) (hv : Vis X.env.scope x) (hi : env[i]? = some (.own Φ)) (hC : C Φ Φ') (hF : ∀ v H0 H F, Φ.P v H0 H F → F = []) (hg : Gl X f := by rfl)
    (hd1 : (x == ("__debug__" : Str)) = false := by decide) (hcd : (x == ("__classdict__" : Str)) = false := by decide)
    (hdb : (f == ("__debug__" : Str)) = false := by decide) (he : starEach [.Name x np] X.env = (false, eval (.Name x np) X.env) :: starEach [] X.env := by rfl) (hpl : (backTo pos (starEach [] X.env)).any (·.1) = false := by rfl) :
    EG X env (.Call (.Name f pf) [.Name x np] [] pos) (.own Φ') env true := by
  obtain ⟨fa, fd, ps, F, hm, hk, hb⟩ := D.ex
  refine .of (pe_call F hr hg hm hk hb .nil pass0 (pa_cons (pe_var hN hv hd1 hcd) pa_nil he) hdb he hpl) fun σ H0 H F S => ?_
  obtain ⟨v0, e0, q0⟩ := S.ok i _ hi
  have hFi := hF _ _ _ _ q0
  rw [hFi] at q0
  refine ⟨v0, e0, ?_⟩
  show spN X.K C ([v0] ++ []) H (VKg X.K env σ H0 H F (.own Φ') true) E0
  refine ⟨Φ, Φ', H0, v0, rfl, hC, S.ex, q0, fun v H0' H' fr n hp hf => ⟨H0', F, fr, (Bnd.refl S).new n, hp, fun a m => ⟨(hf a m).1, (hf a m).2.1, (hf a m).2.2, fun j mj => ?_⟩⟩⟩
  obtain ⟨_, o, e⟩ := S.out j a mj
  rw [(hf a m).1] at e
  cases e
/-- name = [..] -/
theorem sr_lc {y : Str} {py : Pos} {Q : List Sv → Oc → Prop} {rest : List Stmt} {tg it elt : Expr} {ii : IfsS} {scope : Scope} {own : List (Str × Nat)} {t : TgS} {spos : Pos} (h : LC X env tg it ii elt scope own t ds env1 p1) (hc : X.calm = true) (hN : X.N.Nodup) (hy : X.N[i]? = some y) (hl : env1[i]?.isSome = true) (hyl : X.env.scope.names.lookup y = some .local)
    (hsw : swapsWith (.ListComp elt [⟨tg, it, ii.l, 0⟩] scope pos) (some (.Name y py)) spos.line X.env = pure true) (hr : ∀ l, SR X (env1.set i (.own (lstA X.K l ds))) rest Q) : SR X env (.Assign [.Name y py] (.ListComp elt [⟨tg, it, ii.l, 0⟩] scope pos) spos :: rest) Q := by
  obtain ⟨wi, pi, hw⟩ := h.run
  refine sr_cons (ps_setLc hc hN hy hyl hsw pi h.ok (fun s H C cl fp => h.pg ⟨s, H, C, cl, fp⟩) (fun s H C cl fp => pts_ifs ii ⟨s, H, C, cl, fp⟩) (fun s H C cl fp => pe_evb ⟨s, H, C, cl, fp⟩) h.sf) (env1 := env1.set i (.own (lstO X.K ds))) ?_ fun σ H0 H F D S f => ?_
  · refine sr_open i (List.getElem?_set_self (lt_of hl)) fun l => ?_
    rw [List.set_set]
    exact hr l
  · refine hw _ _ _ _ _ S fun v H' z => ?_
    obtain ⟨H0', F', q, xs, rfl, s1, g1, _, n1, n2, hq, nf, hd⟩ := z
    have r : Rv X.K H H0' H' F' (.ref q) (.own (lstO X.K ds)) [q] := ⟨⟨q, rfl, rfl, xs, hq, hd⟩, fun a m => by
      have e : a = q := by simpa using m
      subst e
      exact ⟨n1, n2, ⟨_, hq⟩, nf⟩⟩
    exact f _ _ _ _ (s1.stow (lt_of hl) r) (g1.stow r.new)
end
end Pu
end
section
set_option Elab.async false
set_option linter.all false
set_option maxRecDepth 100000
set_option maxHeartbeats 2000000
/-! t[::-1], t[:0:-1] of tuples -/
namespace TN
open PySem PySem.Spec PyProof.Rows L2 HT
/-- m items at the front stay out -/
inductive Low : Option Int → Nat → Prop
  | all : Low none 0
  | one : Low (some 0) 1
theorem adj {hi : Option Int} {m n : Nat} (h : Low hi m) (hm : m ≤ n) : Builtin.Slice.sliceAdjust none hi (-1) (n : Int) = ((n : Int) - 1, (m : Int) - 1) := by
  cases h with
  | all => rfl
  | one =>
    unfold Builtin.Slice.sliceAdjust
    simp
    omega
theorem plc {m n : Nat} (hm : m ≤ n) : Builtin.Slice.slicePlaces ((n : Int) - 1) ((m : Int) - 1) (-1) = n - m := by
  unfold Builtin.Slice.slicePlaces
  simp only [show ¬ ((-1 : Int) > 0) by omega, if_false, Int.neg_neg, Int.ediv_one]
  split <;> omega
theorem pick (xs : Array Value) {m : Nat} (hm : m ≤ xs.size) : ((List.range (xs.size - m)).filterMap fun (k : Nat) => xs[(((xs.size : Nat) : Int) - 1 + (k : Int) * (-1)).toNat]?).toArray = (xs.toList.drop m).reverse.toArray := by
  congr 1
  have e : ∀ j, j ≤ xs.size - m → (List.range j).filterMap (fun (k : Nat) => xs[(((xs.size : Nat) : Int) - 1 + (k : Int) * (-1)).toNat]?) = (xs.toList.drop m).reverse.take j := by
    intro j
    induction j with
    | zero => intro _; simp
    | succ j ih =>
      intro hj
      rw [List.range_succ, List.filterMap_append, ih (by omega)]
      have hlt : xs.size - 1 - j < xs.size := by omega
      have e1 : (((xs.size : Nat) : Int) - 1 + ((j : Nat) : Int) * (-1)).toNat = xs.size - 1 - j := by omega
      have e2 : ((xs.toList.drop m).reverse)[j]? = some xs[xs.size - 1 - j] := by
        rw [List.getElem?_reverse (by simp; omega), List.getElem?_drop, List.length_drop, Array.length_toList]
        have : m + (xs.size - m - 1 - j) = xs.size - 1 - j := by omega
        rw [this]
        simp [hlt]
      rw [List.take_add_one, e2]
      simp only [List.filterMap_cons, List.filterMap_nil, e1, Array.getElem?_eq_getElem hlt, Option.toList_some]
  have := e (xs.size - m) (Nat.le_refl _)
  rw [this, List.take_of_length_le (by simp)]
section
variable {prog : Program} {w : World} {A : Around} {E : Value → Shared → Prop} {s : Shared}
theorem applied {sl : Addr} {vl vu vs : Value} {hi : Option Int} {m n : Nat} {Q : Int × Int × Nat → Shared → Prop} (hs : s.heap.IsSliceOf sl vl vu vs) (pl : IsPart vl none) (pu : IsPart vu hi) (ps : IsPart vs (some (-1))) (hL : Low hi m) (hm : m ≤ n)
    (h : Q ((n : Int) - 1, -1, n - m) s) : wpAny (model prog w) A (Builtin.Slice.sliceApplied (.ref sl) (pure (n : Int))) Q E s := by
  obtain ⟨os, hos, hcs, hds⟩ := id hs
  unfold Builtin.Slice.sliceApplied Builtin.Slice.sliceFields
  refine wpAny_bind (wpAny_bind (wpAny_field hos hds (x := vl) rfl (wpAny_bind (wpAny_field hos hds (x := vu) rfl (wpAny_bind (wpAny_field hos hds (x := vs) rfl (wpAny_pure ?_)))))))
  refine wpAny_bind (slicePart_ ps ?_)
  show wpAny _ _ (if ((-1 : Int) == 0) = true then _ else _) _ _ s
  rw [if_neg (by decide)]
  refine wpAny_bind (slicePart_ pl (wpAny_bind (slicePart_ pu (wpAny_bind (wpAny_pure ?_)))))
  show wpAny _ _ (match Builtin.Slice.sliceAdjust none hi (-1) (n : Int) with | (lo, hi) => pure (lo, (-1 : Int), Builtin.Slice.slicePlaces lo hi (-1))) _ _ s
  rw [adj hL hm]
  show wpAny _ _ (pure ((n : Int) - 1, (-1 : Int), Builtin.Slice.slicePlaces ((n : Int) - 1) ((m : Int) - 1) (-1))) _ _ s
  rw [plc hm]
  exact wpAny_pure h
theorem getItem_neg {t sl : Addr} {items : Array Value} {vl vu vs : Value} {hi : Option Int} {m : Nat} {Q : Value → Shared → Prop} (ht : IsTup s.heap t items) (hs : s.heap.IsSliceOf sl vl vu vs) (pl : IsPart vl none) (pu : IsPart vu hi) (ps : IsPart vs (some (-1))) (hL : Low hi m) (hm : m ≤ items.size)
    (h : Q (.ref s.heap.objs.size) { s with heap := s.heap.push { cls := .type "tuple", data := .seq (items.toList.drop m).reverse.toArray } }) (hsz : items.size ≤ sizeLine) : wpAny (model prog w) A (getItem (.ref t) (.ref sl)) Q E s := by
  have hz : sizeOk (.seq (items.toList.drop m).reverse.toArray) := by
    show (items.toList.drop m).reverse.toArray.size ≤ sizeLine
    simp
    omega
  obtain ⟨os, hos, hcs, hds⟩ := id hs
  have hT : s.TypeIs (.ref sl) "slice" := ⟨os, hos, hcs⟩
  unfold getItem
  try with_reducible refine wpAny_holding ?_
  first | refine wpAny_bind (wpAny_pure ?_) | skip
  refine wpAny_bind (wpAny_sequenceKey ht.typeIs (by decide) (wpAny_bind (wpAny_callSpecial?_slot (name := Str.ofString "__getitem__") ht.typeIs slot_tuple_getitem (wpAny_call_entry slot_tuple_getitem ht.typeIs entry_tuple_getitem ?_ (args_tuple_getitem _ _)))))
  show wpAny _ _ (Builtin.Tuple.tupleItemsOf (.ref t) >>= _) _ _ s
  refine wpAny_bind (tupleItemsOf_ ht (wpAny_bind (wpAny_typeOf hT ?_)))
  rw [if_pos (by decide)]
  refine wpAny_bind (applied hs pl pu ps hL hm ?_)
  have no : ¬ ((((items.size : Nat) : Int) - 1 == 0 && (-1 : Int) == 1 && (items.size - m) == items.size) = true) := by simp
  show wpAny _ _ (if (((items.size : Nat) : Int) - 1 == 0 && (-1 : Int) == 1 && (items.size - m) == items.size) = true then _ else _) _ _ s
  rw [if_neg no, pick items hm]
  first
    | exact wpAny_bind (m := Builtin.Tuple.tupleExact _) (wpAny_newObj_type (wpAny_pure ⟨_, rfl, wpAny_pure h⟩) hz)
    | exact wpAny_bind (m := Builtin.Tuple.tupleExact _) (wpAny_newObj_type (wpAny_bind (wpAny_pure (wpAny_pure ⟨_, rfl, wpAny_pure h⟩))) hz)
    | exact wpAny_bind (wpAny_bind (m := Builtin.Tuple.tupleExact _) (wpAny_newObj_type (wpAny_pure (wpAny_pure ⟨_, rfl, wpAny_pure h⟩)) hz))
end
theorem vals_drop : ∀ {xs : List V} {us : List Value}, Vals xs us → ∀ n, Vals (xs.drop n) (us.drop n)
  | _, _, h, 0 => h
  | _, _, .nil, _ + 1 => .nil
  | _, _, .cons _ h, n + 1 => vals_drop h n
section
variable {X : Cx}
/-- t[lo:hi:-1], the front kept out -/
def tNeg (K : PySem.W.Frag) (m : Nat) (te : TE) : TE := fun σ H Q => te σ H fun x H1 => ∃ a xs, x = .ref a ∧ SqT K H1 a xs ∧ m ≤ xs.length ∧ ∀ p, H1 p = none → Q (.ref p) (upd H1 p (.tup (xs.drop m).reverse))
theorem pe_neg {e : Expr} {te : TE} {k m : Nat} {hx : Option Expr} {hi : Option Int} {p1 p2 p3 pos : Pos} (hL : Low hi m) (he : PE X e te) {tu : (L2.St → Hp → (Option Int → Hp → Prop) → Prop)} (hu : PO X hx tu) (hq : ∀ σ H (R : Option Int → Hp → Prop), R hi H → tu σ H R) :
    PE X (.Subscript e (.Slice none hx (some (.UnaryOp .USub (.Constant (.int 1) k p1) p2)) p3) pos) (tNeg X.K m te) := by
  refine ⟨fun pins s σ H Q I h => Subscript_ (thn (he.run pins s σ H _ I h) fun v s1 ⟨x, H1, I1, r1, q1⟩ => ?_)⟩
  obtain ⟨a, xs, ex, hx, hml, q⟩ := q1
  subst ex
  cases r1
  have hst : PO X (some (.UnaryOp .USub (.Constant (.int 1) k p1) p2)) (tPart (tUn (rU fun i => .int (-i)) (tC (.int 1)))) := po_some (pe_un un_neg pe_int)
  refine wpAny_Slice (thn (po_none.run pins s1 σ H1 (fun o H2 => o = none ∧ H2 = H1) I1 ⟨rfl, rfl⟩) fun vl s2 ⟨l, H2, I2, pl, el, e2⟩ => ?_)
  subst el e2
  refine thn (hu.run pins s2 σ H2 (fun o H3 => o = hi ∧ H3 = H2) I2 (hq _ _ _ ⟨rfl, rfl⟩)) fun vu s3 ⟨u, H3, I3, pu, eu, e3⟩ => ?_
  subst eu e3
  refine thn (hst.run pins s3 σ H3 (fun o H4 => o = some (-1) ∧ H4 = H3) I3 ⟨1, rfl, -1, rfl, rfl, rfl⟩) fun vs s4 ⟨o, H4, I4, ps, eo, e4⟩ => ?_
  subst eo e4
  have I5 : Inv X pins σ H4 { s4 with heap := s4.heap.push { cls := .type "slice", data := .fields #[vl, vu, vs] } } := I4.kept (t' := s4.toks) fun b ob q => Heap.get?_push_of_some _ q
  obtain ⟨its, r, ht, hz⟩ := I5.tuple hx
  have hlen := r.length
  show wpAny (model X.prog X.w) X.A (subscriptTail e _ (.ref a) (.ref s4.heap.objs.size)) (EP X pins σ Q) X.xe { s4 with heap := s4.heap.push { cls := .type "slice", data := .fields #[vl, vu, vs] } }
  refine tail_any (ops := [.ref a, .ref s4.heap.objs.size]) ht.typeIs (PyProof.Rows.slot_tuple_getitem.lookup) ?_ (by with_unfolding_all rfl)
  refine getItem_neg ht (Heap.IsSliceOf.new _ vl vu vs) pl pu ps hL (by rw [List.size_toArray]; omega) ?_ (by rw [List.size_toArray]; omega)
  refine ⟨.ref _, _, I5.laid (t' := s4.toks) (o := .tup (xs.drop m).reverse) (fun b ob q => Heap.get?_push_of_some _ q) (Nat.le_refl _) ?_, rfl, q _ (I5.hok.fresh (Nat.le_refl _))⟩
  refine ⟨by rw [List.length_reverse, List.length_drop]; omega, (its.drop m).reverse, (vals_drop r m).reverse, ⟨_, Heap.get?_push_size _ rfl, rfl, 0, ?_⟩⟩
  simp
end
end TN
end
section
set_option Elab.async false
set_option linter.all false
set_option maxRecDepth 100000
set_option maxHeartbeats 2000000
namespace Pu
open PySem PySem.Spec L2
section
variable {X : Cx} {env env1 env2 : List Sv} {a b e c : Expr} {es : List Expr} {da db d : PyData} {ds es' xs : List PyData} {pos pf np p3 apos cpos : Pos} {p1 p2 ba bb : Bool}

/-! ### by what the heap reads as -/
theorem dp_room {k n : Nat} (hr : Room k X.A) (h : n ≤ 150) : X.A.units + n < cLine := by have := hr.un; omega
def rEqP (K : PySem.W.Frag) (f : PyData → PyData → Bool) : R2 := fun x y H Q => ∃ da db, Dp K H x da ∧ Dp K H y db ∧ da.plain = true ∧ db.plain = true ∧ (da.depth ≤ 100 ∨ db.depth ≤ 100) ∧ Q (.bl (f da db)) H
theorem min100 {da db : PyData} (h : da.depth ≤ 100 ∨ db.depth ≤ 100) : min da.depth db.depth ≤ 150 := by omega
theorem op_eqP {k : Nat} (hr : Room k X.A) : OpR X (compareOp .Eq) (rEqP X.K PyData.eqv) := by
  intro pins s σ H x y v u Q I rx ry h
  obtain ⟨da, db, h1, h2, pa, pb, hd, q⟩ := h
  obtain ⟨as, r1⟩ := Dp.reads I da x v h1 rx
  obtain ⟨bs, r2⟩ := Dp.reads I db y u h2 ry
  exact SeqAt.eq_plain r1 r2 pa pb (dp_room hr (min100 hd)) ⟨.bl _, H, I, rfl, q⟩
theorem op_neP {k : Nat} (hr : Room k X.A) : OpR X (compareOp .NotEq) (rEqP X.K fun a b => !PyData.eqv a b) := by
  intro pins s σ H x y v u Q I rx ry h
  obtain ⟨da, db, h1, h2, pa, pb, hd, q⟩ := h
  obtain ⟨as, r1⟩ := Dp.reads I da x v h1 rx
  obtain ⟨bs, r2⟩ := Dp.reads I db y u h2 ry
  exact SeqAt.ne_plain r1 r2 pa pb (dp_room hr (min100 hd)) ⟨.bl _, H, I, rfl, q⟩
theorem opv_eqP {K : PySem.W.Frag} {f : PyData → PyData → Bool} (pa : da.plain = true) (pb : db.plain = true) (hd : da.depth ≤ 100 ∨ db.depth ≤ 100) : OpV K (rEqP K f) da db (.bool (f da db)) := fun x y H0 H Q e dx dy q =>
  ⟨da, db, dq_dp _ _ (DqM dx e), dq_dp _ _ (DqM dy e), pa, pb, hd, q _ H0 H (.refl e) (.bl _)⟩
theorem ev_eqP {k : Nat} (hr : Room k X.A) (ha : EV X env a da env1 p1) (hb : EV X env1 b db env2 p2) (pa : da.plain = true) (pb : db.plain = true) (hd : da.depth ≤ 100 ∨ db.depth ≤ 100) : EV X env (.Compare a [.Eq] [b] pos) (.bool (PyData.eqv da db)) env2 (p1 && p2) := ev_cmp (op_eqP hr) ha hb (opv_eqP pa pb hd)
theorem et_eqP {k : Nat} (hr : Room k X.A) (ha : EV X env a da env1 p1) (hb : EV X env1 b db env2 p2) (pa : da.plain = true) (pb : db.plain = true) (hd : da.depth ≤ 100 ∨ db.depth ≤ 100) : ET X env (.Compare a [.Eq] [b] pos) (PyData.eqv da db) env2 (p1 && p2) := et_cmp (op_eqP hr) ha hb (opv_eqP pa pb hd)
theorem ev_neP {k : Nat} (hr : Room k X.A) (ha : EV X env a da env1 p1) (hb : EV X env1 b db env2 p2) (pa : da.plain = true) (pb : db.plain = true) (hd : da.depth ≤ 100 ∨ db.depth ≤ 100) : EV X env (.Compare a [.NotEq] [b] pos) (.bool (!PyData.eqv da db)) env2 (p1 && p2) := ev_cmp (op_neP hr) ha hb (opv_eqP (f := fun a b => !PyData.eqv a b) pa pb hd)
theorem et_neP {k : Nat} (hr : Room k X.A) (ha : EV X env a da env1 p1) (hb : EV X env1 b db env2 p2) (pa : da.plain = true) (pb : db.plain = true) (hd : da.depth ≤ 100 ∨ db.depth ≤ 100) : ET X env (.Compare a [.NotEq] [b] pos) (!PyData.eqv da db) env2 (p1 && p2) := et_cmp (op_neP hr) ha hb (opv_eqP (f := fun a b => !PyData.eqv a b) pa pb hd)
theorem beq_dec (i j : Int) : (i == j) = decide (i = j) := by by_cases h : i = j <;> simp [h]
theorem beq_decN (i j : Int) : (!(i == j)) = !decide (i = j) := by rw [beq_dec]
/-- ints -/
theorem et_eqI {k : Nat} {i j : Int} (hr : Room k X.A) (ha : EV X env a (.int i) env1 p1) (hb : EV X env1 b (.int j) env2 p2) : ET X env (.Compare a [.Eq] [b] pos) (decide (i = j)) env2 (p1 && p2) := (et_eqP hr ha hb rfl rfl (.inl (Nat.zero_le _))).to (by simp only [PyData.eqv]; exact beq_dec i j)
theorem et_neI {k : Nat} {i j : Int} (hr : Room k X.A) (ha : EV X env a (.int i) env1 p1) (hb : EV X env1 b (.int j) env2 p2) : ET X env (.Compare a [.NotEq] [b] pos) (!decide (i = j)) env2 (p1 && p2) := (et_neP hr ha hb rfl rfl (.inl (Nat.zero_le _))).to (by simp only [PyData.eqv]; exact beq_decN i j)
theorem ev_eqI {k : Nat} {i j : Int} (hr : Room k X.A) (ha : EV X env a (.int i) env1 p1) (hb : EV X env1 b (.int j) env2 p2) : EV X env (.Compare a [.Eq] [b] pos) (.bool (decide (i = j))) env2 (p1 && p2) := (ev_eqP hr ha hb rfl rfl (.inl (Nat.zero_le _))).to (by simp only [PyData.eqv]; rw [beq_dec])
theorem ev_neI {k : Nat} {i j : Int} (hr : Room k X.A) (ha : EV X env a (.int i) env1 p1) (hb : EV X env1 b (.int j) env2 p2) : EV X env (.Compare a [.NotEq] [b] pos) (.bool (!decide (i = j))) env2 (p1 && p2) := (ev_neP hr ha hb rfl rfl (.inl (Nat.zero_le _))).to (by simp only [PyData.eqv]; rw [beq_decN])

/-! ### in -/
def rInP (K : PySem.W.Frag) (f : Bool → Bool) : R2 := fun x y H Q => ∃ d xs, Dp K H x d ∧ (Dp K H y (.list xs) ∨ Dp K H y (.tuple xs)) ∧ d.plain = true ∧ PyData.plainAll xs = true ∧ d.depth ≤ 100 ∧ Q (.bl (f (xs.any fun z => PyData.eqv z d))) H
theorem op_inP {k : Nat} (hr : Room k X.A) : OpR X (compareOp .In) (rInP X.K fun b => b) := by
  intro pins s σ H x y v u Q I rx ry h
  obtain ⟨d, xs, h1, h2, pa, pb, hd, q⟩ := h
  obtain ⟨as, r1⟩ := Dp.reads I d x v h1 rx
  have hu : X.A.units + 1 + min (PyData.depthAll xs) d.depth < cLine := by have := hr.un; omega
  rcases h2 with h2 | h2
  · obtain ⟨bs, r2⟩ := Dp.reads I _ y u h2 ry
    exact SeqAt.in_list_data r2 r1 pb pa hu ⟨.bl _, H, I, rfl, q⟩
  · obtain ⟨bs, r2⟩ := Dp.reads I _ y u h2 ry
    exact SeqAt.in_tuple_data r2 r1 pb pa hu ⟨.bl _, H, I, rfl, q⟩
theorem op_niP {k : Nat} (hr : Room k X.A) : OpR X (compareOp .NotIn) (rInP X.K fun b => !b) := by
  intro pins s σ H x y v u Q I rx ry h
  obtain ⟨d, xs, h1, h2, pa, pb, hd, q⟩ := h
  obtain ⟨as, r1⟩ := Dp.reads I d x v h1 rx
  have hu : X.A.units + 1 + min (PyData.depthAll xs) d.depth < cLine := by have := hr.un; omega
  rcases h2 with h2 | h2
  · obtain ⟨bs, r2⟩ := Dp.reads I _ y u h2 ry
    exact SeqAt.notIn_list_data r2 r1 pb pa hu ⟨.bl _, H, I, rfl, q⟩
  · obtain ⟨bs, r2⟩ := Dp.reads I _ y u h2 ry
    exact SeqAt.notIn_tuple_data r2 r1 pb pa hu ⟨.bl _, H, I, rfl, q⟩
theorem opv_in {K : PySem.W.Frag} {f : Bool → Bool} (sb : IsSeq db xs) (pa : da.plain = true) (pb : PyData.plainAll xs = true) (hd : da.depth ≤ 100) : OpV K (rInP K f) da db (.bool (f (xs.any fun z => PyData.eqv z da))) := fun x y H0 H Q e dx dy q => by
  have h2 := dq_dp _ _ (DqM dy e)
  refine ⟨da, xs, dq_dp _ _ (DqM dx e), ?_, pa, pb, hd, q _ H0 H (.refl e) (.bl _)⟩
  cases sb with
  | l => exact .inl h2
  | t => exact .inr h2
theorem ev_in {k : Nat} (hr : Room k X.A) (ha : EV X env a da env1 p1) (hb : EV X env1 b db env2 p2) (sb : IsSeq db xs) (pa : da.plain = true) (pb : PyData.plainAll xs = true) (hd : da.depth ≤ 100) (hm : behindInMarks .In b = false := by first | exact nomark _ | rfl) : EV X env (.Compare a [.In] [b] pos) (.bool (xs.any fun z => PyData.eqv z da)) env2 (p1 && p2) := ev_cmp (op_inP hr) ha hb (opv_in (f := fun b => b) sb pa pb hd) hm
theorem ev_notIn {k : Nat} (hr : Room k X.A) (ha : EV X env a da env1 p1) (hb : EV X env1 b db env2 p2) (sb : IsSeq db xs) (pa : da.plain = true) (pb : PyData.plainAll xs = true) (hd : da.depth ≤ 100) (hm : behindInMarks .NotIn b = false := by first | exact nomark _ | rfl) : EV X env (.Compare a [.NotIn] [b] pos) (.bool (!xs.any fun z => PyData.eqv z da)) env2 (p1 && p2) := ev_cmp (op_niP hr) ha hb (opv_in (f := fun b => !b) sb pa pb hd) hm
theorem et_in {k : Nat} (hr : Room k X.A) (ha : EV X env a da env1 p1) (hb : EV X env1 b db env2 p2) (sb : IsSeq db xs) (pa : da.plain = true) (pb : PyData.plainAll xs = true) (hd : da.depth ≤ 100) (hm : behindInMarks .In b = false := by first | exact nomark _ | rfl) : ET X env (.Compare a [.In] [b] pos) (xs.any fun z => PyData.eqv z da) env2 (p1 && p2) := et_cmp (op_inP hr) ha hb (opv_in (f := fun b => b) sb pa pb hd) hm
theorem et_notIn {k : Nat} (hr : Room k X.A) (ha : EV X env a da env1 p1) (hb : EV X env1 b db env2 p2) (sb : IsSeq db xs) (pa : da.plain = true) (pb : PyData.plainAll xs = true) (hd : da.depth ≤ 100) (hm : behindInMarks .NotIn b = false := by first | exact nomark _ | rfl) : ET X env (.Compare a [.NotIn] [b] pos) (!xs.any fun z => PyData.eqv z da) env2 (p1 && p2) := et_cmp (op_niP hr) ha hb (opv_in (f := fun b => !b) sb pa pb hd) hm

/-! ### is, of bools -/
theorem et_is (ha : EV X env a (.bool ba) env1 p1) (hb : EV X env1 b (.bool bb) env2 p2) : ET X env (.Compare a [.Is] [b] pos) (decide (ba = bb)) env2 (p1 && p2) := et_cmp op_isBl ha hb fun x y H0 H Q e dx dy q => by
  cases dx; cases dy
  exact ⟨ba, bb, rfl, rfl, q _ H0 H (.refl e) (.bl _)⟩
theorem ev_is' (ha : EV X env a (.bool ba) env1 p1) (hb : EV X env1 b (.bool bb) env2 p2) : EV X env (.Compare a [.Is] [b] pos) (.bool (decide (ba = bb))) env2 (p1 && p2) := ev_cmp op_isBl ha hb fun x y H0 H Q e dx dy q => by
  cases dx; cases dy
  exact ⟨ba, bb, rfl, rfl, q _ H0 H (.refl e) (.bl _)⟩
theorem et_isnt (ha : EV X env a (.bool ba) env1 p1) (hb : EV X env1 b (.bool bb) env2 p2) : ET X env (.Compare a [.IsNot] [b] pos) (!decide (ba = bb)) env2 (p1 && p2) := et_cmp op_notBl ha hb fun x y H0 H Q e dx dy q => by
  cases dx; cases dy
  exact ⟨ba, bb, rfl, rfl, q _ H0 H (.refl e) (.bl _)⟩

/-! ### isinstance -/
def rIsa (K : PySem.W.Frag) (T : String) (f : PyData → Bool) : List V → Hp → VK → Prop := fun vs H Q => ∃ v d, vs = [v, .ty T] ∧ Dp K H v d ∧ Q (.bl (f d)) H
theorem cr_isa {T : String} {f : PyData → Bool} (h : ∀ {prog : Program} {w : World} {A : Around} {E : Value → Shared → Prop} {s : Shared} {v : Value} {d : PyData} {as : List Addr} {Q : Value → Shared → Prop}, Reads s.heap v d as → (∀ tk, s.toks ≤ tk → Q (.bool (f d)) { s with toks := tk }) → wpAny (model prog w) A (call (.builtin "isinstance") [v, .type T]) Q E s) :
    CallR X (.builtin "isinstance") (rIsa X.K T f) := by
  intro pins s σ H vs us Q I r hh
  obtain ⟨v, d, rfl, hd, q⟩ := hh
  cases r with
  | cons r1 t =>
    cases t with
    | cons r2 t =>
      cases t; cases r2
      obtain ⟨as, rd⟩ := Dp.reads I d v _ hd r1
      exact h rd fun tk _ => ⟨.bl _, H, I.tok tk, rfl, q⟩
theorem ev_isa {T : String} {f : PyData → Bool} {ty : Str} (hc : CallR X (.builtin "isinstance") (rIsa X.K T f)) (hm : X.mg "isinstance" = none) (hm2 : X.mg ty = none) (hv2 : bootBuiltins ty = some (.type T)) (ha : EV X env a d env1 p1) (hg : Gl X "isinstance" := by rfl) (hg2 : Gl X ty := by rfl)
    (hn : ty ≠ "__name__" := by decide) (hd : (ty == ("__debug__" : Str)) = false := by decide) {tp : Pos}
    (h1 : starEach [a, .Name ty tp] X.env = (false, eval a X.env) :: starEach [.Name ty tp] X.env := by rfl) (h2 : starEach [.Name ty tp] X.env = (false, eval (.Name ty tp) X.env) :: starEach [] X.env := by rfl) (hpl : (backTo pos (starEach [.Name ty tp] X.env)).any (·.1) = false := by rfl) :
    EV X env (.Call (.Name "isinstance" pf) [a, .Name ty tp] [] pos) (.bool (f d)) env1 p1 :=
  .of (pe_callB hc hg hm (by decide +kernel) (pa_cons pe_ev (pa_cons (pe_bltn hg2 hm2 hv2 (v := .ty T) rfl hn hd) pa_nil h2) h1) (by decide) (by decide) h1 hpl) fun σ H0 H F S => tEV.go ha S fun v H01 H1 F1 b1 d1 =>
    ⟨v, d, rfl, dq_dp _ _ (DqM d1 b1.s.ex), .mk b1 (.bl _)⟩

/-! ### any, count, repr -/
theorem ev_any {ns : List Int} (hc : X.calm = true) (hm : X.mg "any" = none) (ha : EV X env a (.list (ns.map .int)) env1 p1) (hg : Gl X "any" := by rfl) (h1 : starEach [a] X.env = (false, eval a X.env) :: starEach [] X.env := by rfl) (hpl : (backTo pos (starEach [] X.env)).any (·.1) = false := by rfl) :
    EV X env (.Call (.Name "any" pf) [a] [] pos) (.bool (ns.any fun n => n != 0)) env1 p1 := by
  have cr : CallR X (.builtin "any") (fun vs H Q => ∃ v, vs = [v] ∧ Dp X.K H v (.list (ns.map .int)) ∧ Q (.bl (ns.any fun n => n != 0)) H) := by
    intro pins s σ H vs us Q I r h
    obtain ⟨v, rfl, hd, q⟩ := h
    cases r with
    | cons r1 t =>
      cases t
      cases hd with
      | lst hs hall =>
        cases r1
        obtain ⟨its, rv, p, _⟩ := I.list hs
        obtain ⟨as, hr⟩ := Dp.readsAll I _ _ its hall rv
        have e : (ns.map PyData.int).any PyData.truthy = ns.any fun n => n != 0 := by
          rw [List.any_map]
          rfl
        have pl : PyData.plainAll (ns.map PyData.int) = true := by
          clear q hall hr e ha
          induction ns with
          | nil => rfl
          | cons n ns ih => simpa [PyData.plainAll, PyData.plain] using ih
        refine PySem.W.any_list_data (I.ok.hd hc) p.isList (by simpa using hr) pl (fun x hx => ?_) fun h' tk hk => ⟨.bl _, H, I.kept (t' := tk) hk, by rw [e]; rfl, q⟩
        obtain ⟨n, _, rfl⟩ := List.mem_map.mp hx
        trivial
  have h := ev_callB (X := X) (pf := pf) (pos := pos) (d := .bool (ns.any fun n => n != 0)) cr hm (by decide +kernel) (ea_cons ha ea_nil h1) (fun vs H0 H Q e dv q => by
    cases dv with
    | cons x1 t1 =>
      cases t1
      exact ⟨_, rfl, dq_dp _ _ (DqM x1 e), q _ H0 H (.refl e) (.bl _)⟩) hg (by decide) (by decide) h1 hpl
  simpa using h
theorem mt_countD {k : Nat} (hr : Room k X.A) : MtM X "list.count" (fun x vs H Q => ∃ d xs y, vs = [y] ∧ Dp X.K H x (.list xs) ∧ Dp X.K H y d ∧ PyData.plainAll xs = true ∧ d.plain = true ∧ d.depth ≤ 100 ∧ Q (.int ((xs.countP fun z => PyData.eqv z d : Nat) : Int)) H) := by
  intro pins s σ H x vs v us Q I rx rv h
  obtain ⟨d, xs, y, rfl, h1, h2, pa, pb, hd, q⟩ := h
  obtain ⟨u, rfl, ru⟩ := rv.one
  obtain ⟨bs, r2⟩ := Dp.reads I d y u h2 ru
  cases h1 with
  | lst hs hall =>
    cases rx
    obtain ⟨its, rv, p, _⟩ := I.list hs
    obtain ⟨as, hr'⟩ := Dp.readsAll I _ _ its hall rv
    exact SeqAt.count_list_data p.isList (by simpa using hr') r2 pa pb (by have := hr.un; omega) ⟨.int _, H, I.tok _, ⟨_, rfl⟩, q⟩
theorem ev_count {k : Nat} {ap : Pos} (hr : Room k X.A) (ha : EV X env a (.list xs) env1 p1) (hb : EV X env1 b d env2 p2) (pa : PyData.plainAll xs = true) (pb : d.plain = true) (hd : d.depth ≤ 100)
    (hbase : attributeBase a "count" X.env (eval a X.env) = eval a X.env := by rfl)
    (hfew : ((backTo cpos (starEach [b] X.env)).all (fun x => !x.1) && (backToKw cpos (keywordEach [] X.env)).all (fun x => x.1.isSome) && decide ([b].length + ([] : List Keyword).length + (if ([] : List Keyword).isEmpty then 0 else 1) < 30)) = true := by rfl)
    (hline : (apos.endLine == cpos.line) = true := by rfl) (hse : starEach [b] X.env = (false, eval b X.env) :: starEach [] X.env := by rfl) (hpl : (backTo cpos (starEach [] X.env)).any (·.1) = false := by rfl) :
    EV X env (.Call (.Attribute a "count" apos) [b] [] cpos) (.int ((xs.countP fun z => PyData.eqv z d : Nat) : Int)) env2 (p1 && p2) :=
  .of (pe_bm PySem.F.plainAttrs_list PySem.F.slot_list_count (by rfl) (mt_countD hr) pe_ev (pa_cons pe_ev pa_nil hse) hbase hfew hline hse hpl) fun σ H0 H F S => tEV.go ha S fun x H01 H1 F1 b1 d1 => by
    have d1' := d1
    cases d1' with
    | lst hs hall =>
      exact ⟨.inl ⟨rfl, _, SqL.of (b1.s.ex _ _ hs)⟩, tEV.go hb b1.s fun y H02 H2 F2 b2 d2 => ⟨d, xs, y, rfl, dq_dp _ _ (DqM (DqM d1 b2.g.ex) b2.s.ex), dq_dp _ _ (DqM d2 b2.s.ex), pa, pb, hd, .mk (b1.trans b2) (.int _)⟩⟩
theorem cr_repr {k : Nat} (hr : Room k X.A) (hgd : X.A.guards = some []) : CallR X (.builtin "repr") (fun vs H Q => ∃ v d, vs = [v] ∧ Dp X.K H v d ∧ d.showable = true ∧ d.hasDict = false ∧ d.depth ≤ 100 ∧ d.shown.length ≤ sizeLine ∧ Q (.str d.shown) H) := by
  intro pins s σ H vs us Q I r h
  obtain ⟨v, d, rfl, hd, sh, nd, dp, sz, q⟩ := h
  obtain ⟨u, rfl, ru⟩ := r.one
  obtain ⟨as, rd⟩ := Dp.reads I d v u hd ru
  have big : ∀ {a : Addr} {as : List Addr}, Reads s.heap (.ref a) d as → wpAny (model X.prog X.w) X.A (call (.builtin "repr") [.ref a]) (EP X pins σ Q) X.xe s := fun rd =>
    repr_of_reads' rd sh (PyData.noDict_hsm nd) hgd (by have := hr.un; omega) (fun b o e => e) (fun h' u tk hk => ⟨.str d.shown, H, I.kept (t' := tk) hk, ⟨_, rfl⟩, q⟩) sz
  cases rd with
  | none => exact P.repr_of_none ⟨.str _, H, I.tok _, ⟨_, rfl⟩, q⟩
  | bool b => exact P.repr_of_bool ⟨.str _, H, I.tok _, ⟨_, by cases b <;> rfl⟩, q⟩
  | int n t => exact P.repr_of_int (by simpa [PyData.showable] using sh) ⟨.str _, H, I.tok _, ⟨_, rfl⟩, q⟩
  | str x t => exact P.repr_of_str ⟨.str _, H, I.tok _, ⟨_, rfl⟩, q⟩ sz
  | list h1 h2 h3 h4 => exact big (.list h1 h2 h3 h4)
  | tuple h1 h2 h3 h4 => exact big (.tuple h1 h2 h3 h4)
  | dict h1 h2 h3 h4 h5 => cases nd
theorem ev_repr {k : Nat} (hr : Room k X.A) (hgd : X.A.guards = some []) (hm : X.mg "repr" = none) (ha : EV X env a d env1 p1) (sh : d.showable = true) (nd : d.hasDict = false) (dp : d.depth ≤ 100) (sz : d.shown.length ≤ sizeLine) (hg : Gl X "repr" := by rfl)
    (h1 : starEach [a] X.env = (false, eval a X.env) :: starEach [] X.env := by rfl) (hpl : (backTo pos (starEach [] X.env)).any (·.1) = false := by rfl) : EV X env (.Call (.Name "repr" pf) [a] [] pos) (.str d.shown) env1 p1 := by
  have h := ev_callB (X := X) (pf := pf) (pos := pos) (d := .str d.shown) (cr_repr hr hgd) hm (by decide +kernel) (ea_cons ha ea_nil h1) (fun vs H0 H Q e dv q => by
    cases dv with
    | cons x1 t1 =>
      cases t1
      exact ⟨_, d, rfl, dq_dp _ _ (DqM x1 e), sh, nd, dp, sz, q _ H0 H (.refl e) (.str _)⟩) hg (by decide) (by decide) h1 hpl
  simpa using h

/-! ### slices of tuples, starred items -/
theorem ev_slA {lo hi : Option Expr} {l u : Option Int} {p2' : Pos} (ha : EV X env a (.tuple ds) env1 p1) (hl : EO X env1 lo l) (hu : EO X env1 hi u) : EV X env (.Subscript a (.Slice lo hi none p2') pos) (.tuple (cutD ds l u)) env1 p1 := by
  obtain ⟨tl, pl, ql⟩ := hl.run
  obtain ⟨tu, pu, qu⟩ := hu.run
  refine .of (pe_slice sl_tupA pe_ev pl pu) fun σ H0 H F S => tEV.go ha S fun x H01 H1 F1 b1 d1 => ql _ _ _ _ _ b1.s fun H02 H2 b2 => qu _ _ _ _ _ b2.s fun H03 H3 b3 => ?_
  have d3 := DqM (DqM d1 b2.g.ex) b3.g.ex
  cases d3 with
  | tup hs hall =>
    have b := (b1.trans b2).trans b3
    simp only [Bool.and_true] at b
    refine ⟨_, _, rfl, sameT b3.s.ex hs, fun hw => ?_, fun hw p hp => .mk (b.new (.laid b.s.ex hp _)) (.tup (SqT.of upd_same) (DqAllM (cut_da hall) (same_upd (same_none b.s.ex hp) _)))⟩
    have e : cutD ds l u = ds := by
      rw [da_len hall] at hw
      unfold cutD
      rw [hw.1, hw.2]
      simp
    rw [e]
    exact .mk b (.tup hs hall)
theorem ev_revT {k : Nat} {q1 q2 q3 : Pos} (ha : EV X env a (.tuple ds) env1 p1) : EV X env (.Subscript a (.Slice none none (some (.UnaryOp .USub (.Constant (.int 1) k q1) q2)) q3) pos) (.tuple ds.reverse) env1 p1 :=
  .of (TN.pe_neg .all pe_ev po_none fun σ H R h => h) fun σ H0 H F S => tEV.go ha S fun x H01 H1 F1 b1 d1 => by
    cases d1 with
    | tup hs hall => exact ⟨_, _, rfl, sameT b1.s.ex hs, Nat.zero_le _, fun p hp => .mk (b1.new (.laid b1.s.ex hp _)) (.tup (SqT.of upd_same) (DqAllM (da_rev hall) (same_upd (same_none b1.s.ex hp) _)))⟩
theorem ev_neg1 {k k0 : Nat} {q0 q1 q2 q3 : Pos} (ha : EV X env a (.tuple ds) env1 p1) (hd : 1 ≤ ds.length) : EV X env (.Subscript a (.Slice none (some (.Constant (.int 0) k0 q0)) (some (.UnaryOp .USub (.Constant (.int 1) k q1) q2)) q3) pos) (.tuple (ds.drop 1).reverse) env1 p1 :=
  .of (TN.pe_neg .one pe_ev (po_some pe_int) fun σ H R h => ⟨0, rfl, h⟩) fun σ H0 H F S => tEV.go ha S fun x H01 H1 F1 b1 d1 => by
    cases d1 with
    | tup hs hall => exact ⟨_, _, rfl, sameT b1.s.ex hs, by rw [da_len hall]; exact hd, fun p hp => .mk (b1.new (.laid b1.s.ex hp _)) (.tup (SqT.of upd_same) (DqAllM (da_rev (da_drop 1 hall)) (same_upd (same_none b1.s.ex hp) _)))⟩
theorem ea_star (ha : EV X env e d env1 p1) (sa : IsSeq d xs) (hb : EA X env1 es ds env2 p2) (hs : starEach (.Starred e p3 :: es) X.env = (true, eval e X.env) :: starEach es X.env := by rfl) : EA X env (.Starred e p3 :: es) (xs ++ ds) env2 (p1 && p2) :=
  .of (StX.pa_star pe_ev pa_ea hs) fun σ H0 H F S => tEV.go ha S fun x H01 H1 F1 b1 d1 => by
    obtain ⟨k, a, ys, rfl, q, hall⟩ := sa.k d1
    have q' := sameK b1.s.ex q
    refine ⟨a, ys, rfl, ?_, tEA.go hb b1.s fun vs H02 H2 F2 b2 d2 => ⟨H02, F2, (b1.trans b2).s, (b1.trans b2).g, (b1.trans b2).p, da_app (DqAllM hall b2.g.ex) d2⟩⟩
    cases k with
    | true => exact .inl q'
    | false => exact .inr q'
end
end Pu
end
section
set_option Elab.async false
set_option linter.all false
set_option maxRecDepth 100000
set_option maxHeartbeats 2000000
/-! short words -/
namespace Pu
open PySem PySem.Spec L2
section
variable {X : Cx} {env env1 env2 env3 : List Sv} {a b c e : Expr} {d d1 d2 d3 : PyData} {p1 p2 p3 : Bool} {k : Nat} {pos pf : Pos} {C : List PyData → PyData → Prop} {f : Str}
theorem v (i : Nat) {x : Str} {pos : Pos} (hN : X.N[i]? = some x := by rfl) (hv : Vis X.env.scope x := by first | exact Or.inl rfl | exact Or.inr (Or.inl rfl) | exact Or.inr (Or.inr rfl)) (he : env[i]? = some (.dat d) := by rfl) (hd : (x == ("__debug__" : Str)) = false := by decide) (hcd : (x == ("__classdict__" : Str)) = false := by decide) : EV X env (.Name x pos) d env true := ev_var hN hv he hd hcd
theorem ea1 (ha : EV X env a d env1 p1) (h1 : starEach [a] X.env = (false, eval a X.env) :: starEach [] X.env := by rfl) : EA X env [a] [d] env1 (p1 && true) := ea_cons ha ea_nil h1
theorem ea2 (ha : EV X env a d env1 p1) (hb : EV X env1 b d1 env2 p2) (h1 : starEach [a, b] X.env = (false, eval a X.env) :: starEach [b] X.env := by rfl) (h2 : starEach [b] X.env = (false, eval b X.env) :: starEach [] X.env := by rfl) : EA X env [a, b] [d, d1] env2 (p1 && (p2 && true)) := ea_cons ha (ea_cons hb ea_nil h2) h1
theorem ea3 (ha : EV X env a d env1 p1) (hb : EV X env1 b d1 env2 p2) (hc : EV X env2 c d2 env3 p3) (h1 : starEach [a, b, c] X.env = (false, eval a X.env) :: starEach [b, c] X.env := by rfl) (h2 : starEach [b, c] X.env = (false, eval b X.env) :: starEach [c] X.env := by rfl) (h3 : starEach [c] X.env = (false, eval c X.env) :: starEach [] X.env := by rfl) :
    EA X env [a, b, c] [d, d1, d2] env3 (p1 && (p2 && (p3 && true))) := ea_cons ha (ea_cons hb (ea_cons hc ea_nil h3) h2) h1
/-- calls of one, two arguments, all pure -/
theorem call1 (D : Df X.prog X.w X.K X.mg X.base k f (spP X.K C)) (hr : Room k X.A) (ha : EV X env a d env true) (hC : C [d] d1) (hg : Gl X f := by rfl) (hdb : (f == ("__debug__" : Str)) = false := by decide) (h1 : starEach [a] X.env = (false, eval a X.env) :: starEach [] X.env := by rfl) (hpl : (backTo pos (starEach [] X.env)).any (·.1) = false := by rfl) :
    EV X env (.Call (.Name f pf) [a] [] pos) d1 env true := ev_call D hr (ea1 ha h1) hC hg hdb h1 hpl
theorem call2 (D : Df X.prog X.w X.K X.mg X.base k f (spP X.K C)) (hr : Room k X.A) (ha : EV X env a d env true) (hb : EV X env b d2 env true) (hC : C [d, d2] d1) (hg : Gl X f := by rfl) (hdb : (f == ("__debug__" : Str)) = false := by decide) (h1 : starEach [a, b] X.env = (false, eval a X.env) :: starEach [b] X.env := by rfl) (h2 : starEach [b] X.env = (false, eval b X.env) :: starEach [] X.env := by rfl)
    (hpl : (backTo pos (starEach [b] X.env)).any (·.1) = false := by rfl) : EV X env (.Call (.Name f pf) [a, b] [] pos) d1 env true := ev_call D hr (ea2 ha hb h1 h2) hC hg hdb h1 hpl
theorem ev_globE {x : Str} (h : ∃ v u, X.mg x = some u ∧ RelV v u ∧ ∀ H, Dq X.K H v d) (hg : Gl X x := by rfl) (hdb : (x == ("__debug__" : Str)) = false := by decide) : EV X env (.Name x pos) d env true := by
  obtain ⟨v, u, h1, h2, h3⟩ := h
  exact ev_glob h1 h2 h3 hg hdb
/-- isinstance of data -/
theorem isInt {q : Pos} (hm : X.mg "isinstance" = none) (hm2 : X.mg "int" = none) (ha : EV X env a d env1 p1) (hg : Gl X "isinstance" := by rfl) (hg2 : Gl X "int" := by rfl) (h1 : starEach [a, .Name "int" q] X.env = (false, eval a X.env) :: starEach [.Name "int" q] X.env := by rfl) (h2 : starEach [.Name "int" q] X.env = (false, eval (.Name "int" q) X.env) :: starEach [] X.env := by rfl) (hpl : (backTo pos (starEach [.Name "int" q] X.env)).any (·.1) = false := by rfl) :
    EV X env (.Call (.Name "isinstance" pf) [a, .Name "int" q] [] pos) (.bool d.isInt) env1 p1 := ev_isa (cr_isa PySem.W.isinstance_int_data) hm hm2 (by decide +kernel) ha hg hg2 (by decide) (by decide) h1 h2 hpl
theorem isBool {q : Pos} (hm : X.mg "isinstance" = none) (hm2 : X.mg "bool" = none) (ha : EV X env a d env1 p1) (hg : Gl X "isinstance" := by rfl) (hg2 : Gl X "bool" := by rfl) (h1 : starEach [a, .Name "bool" q] X.env = (false, eval a X.env) :: starEach [.Name "bool" q] X.env := by rfl) (h2 : starEach [.Name "bool" q] X.env = (false, eval (.Name "bool" q) X.env) :: starEach [] X.env := by rfl) (hpl : (backTo pos (starEach [.Name "bool" q] X.env)).any (·.1) = false := by rfl) :
    EV X env (.Call (.Name "isinstance" pf) [a, .Name "bool" q] [] pos) (.bool d.isBool) env1 p1 := ev_isa (cr_isa PySem.W.isinstance_bool_data) hm hm2 (by decide +kernel) ha hg hg2 (by decide) (by decide) h1 h2 hpl
theorem isTup {q : Pos} (hm : X.mg "isinstance" = none) (hm2 : X.mg "tuple" = none) (ha : EV X env a d env1 p1) (hg : Gl X "isinstance" := by rfl) (hg2 : Gl X "tuple" := by rfl) (h1 : starEach [a, .Name "tuple" q] X.env = (false, eval a X.env) :: starEach [.Name "tuple" q] X.env := by rfl) (h2 : starEach [.Name "tuple" q] X.env = (false, eval (.Name "tuple" q) X.env) :: starEach [] X.env := by rfl) (hpl : (backTo pos (starEach [.Name "tuple" q] X.env)).any (·.1) = false := by rfl) :
    EV X env (.Call (.Name "isinstance" pf) [a, .Name "tuple" q] [] pos) (.bool d.isTuple) env1 p1 := ev_isa (cr_isa PySem.W.isinstance_tuple_data) hm hm2 (by decide +kernel) ha hg hg2 (by decide) (by decide) h1 h2 hpl
/-- name = value -/
theorem as (i : Nat) {x : Str} {py pos : Pos} {rest : List Stmt} {Q : List Sv → Oc → Prop} (he : EV X env e d env1 p1) (hr : SR X (env1.set i (.dat d)) rest Q) (hN : X.N.Nodup := by assumption) (hi : X.N[i]? = some x := by rfl) (hx : Loc X.env.scope x := by first | exact Or.inl rfl | exact Or.inr rfl) (hl : env1[i]?.isSome = true := by rfl)
    (hs : swapsWith e (some (.Name x py)) pos.line X.env = pure false := by rfl) (hf : X.fn x = true ∨ X.env.scope.names.lookup x = some .local := by first | exact .inl rfl | exact .inr rfl) : SR X env (.Assign [.Name x py] e pos :: rest) Q := sr_asg hN hi hx (EV.eg he) hr hl hs hf
theorem asL (i : Nat) {x : Str} {py pos : Pos} {rest : List Stmt} {Q : List Sv → Oc → Prop} {ds : List PyData} (he : EL X env e ds env1 p1) (hr : ∀ l, SR X (env1.set i (.own (lstA X.K l ds))) rest Q) (hN : X.N.Nodup := by assumption) (hi : X.N[i]? = some x := by rfl) (hx : Loc X.env.scope x := by first | exact Or.inl rfl | exact Or.inr rfl) (hl : env1[i]?.isSome = true := by rfl)
    (hs : swapsWith e (some (.Name x py)) pos.line X.env = pure false := by rfl) (hf : X.fn x = true ∨ X.env.scope.names.lookup x = some .local := by first | exact .inl rfl | exact .inr rfl) : SR X env (.Assign [.Name x py] e pos :: rest) Q :=
  sr_asg hN hi hx (EL.eg he) (sr_open i (List.getElem?_set_self (lt_of hl)) fun l => by rw [List.set_set]; exact hr l) hl hs hf
theorem ap (i : Nat) {x : Str} {py pos apos cpos : Pos} {rest : List Stmt} {Q : List Sv → Oc → Prop} {ds : List PyData} {l : Addr} (he : EV X env e d env1 p1) (hz : ds.length < sizeLine) (hr : SR X (env1.set i (.own (lstA X.K l (ds ++ [d])))) rest Q) (hN : X.N[i]? = some x := by rfl) (hv : Vis X.env.scope x := by first | exact Or.inl rfl | exact Or.inr (Or.inl rfl) | exact Or.inr (Or.inr rfl)) (hi0 : ∃ ds0, env[i]? = some (.own (lstA X.K l ds0)) := by exact ⟨_, rfl⟩) (hi : env1[i]? = some (.own (lstA X.K l ds)) := by rfl)
    (hd1 : (x == ("__debug__" : Str)) = false := by decide) (hcd : (x == ("__classdict__" : Str)) = false := by decide) (hs : swapsWith (.Call (.Attribute (.Name x py) "append" apos) [e] [] cpos) none pos.line X.env = pure false := by rfl)
    (hbase : attributeBase (.Name x py) "append" X.env (eval (.Name x py) X.env) = eval (.Name x py) X.env := by rfl)
    (hfew : ((backTo cpos (starEach [e] X.env)).all (fun x => !x.1) && (backToKw cpos (keywordEach [] X.env)).all (fun x => x.1.isSome) && decide ([e].length + ([] : List Keyword).length + (if ([] : List Keyword).isEmpty then 0 else 1) < 30)) = true := by rfl)
    (hline : (apos.endLine == cpos.line) = true := by rfl) (hse : starEach [e] X.env = (false, eval e X.env) :: starEach [] X.env := by rfl) (hpl : (backTo cpos (starEach [] X.env)).any (·.1) = false := by rfl) :
    SR X env (.Expr (.Call (.Attribute (.Name x py) "append" apos) [e] [] cpos) pos :: rest) Q := sr_append hN hv he hi0 hi hz hr hd1 hcd hs hbase hfew hline hse hpl
end
end Pu
end
section
set_option Elab.async false
set_option linter.all false
set_option maxRecDepth 100000
set_option maxHeartbeats 2000000
namespace Pu
open PySem PySem.Spec L2
theorem map_at {α β : Type} {xs : List α} {g : α → β} {k : Nat} {d : β} (h : (xs.map g)[k]? = some d) : ∃ x, xs[k]? = some x ∧ d = g x := by
  rw [List.getElem?_map] at h
  cases e : xs[k]? with
  | none => rw [e] at h; cases h
  | some x => rw [e] at h; exact ⟨x, rfl, (Option.some.inj h).symm⟩
theorem take_at {α : Type} {xs : List α} {k : Nat} {x : α} (h : xs[k]? = some x) : xs.take (k + 1) = xs.take k ++ [x] := by rw [List.take_add_one, h]; rfl
theorem all_no {env : List Sv} {vs : List Nat} (h : (vs.all fun j => !isOwn env[j]?) = true) : ∀ j ∈ vs, isOwn env[j]? = false := fun j hj => by
  have := List.all_eq_true.mp h j hj
  simpa using this
theorem all_ix {t : TgS} {vs : List Nat} (h : ((idxS t).all fun j => vs.contains j) = true) : ∀ j ∈ idxS t, j ∈ vs := fun j hj => by
  have := List.all_eq_true.mp h j hj
  simpa using this
section
variable {X : Cx} {env env1 env2 : List Sv} {tg it elt c e a : Expr} {d da : PyData} {ds its : List PyData} {pos pf : Pos} {p1 p2 : Bool} {scope : Scope} {t : TgS}
theorem iv_seq (h : EV X env e d env1 p1) (hs : IsSeq d ds) : IV X env tg e ds env1 p1 [] := by
  cases hs with
  | l => exact iv_list h
  | t => exact iv_tup h
theorem ev_lenS (hm : X.mg "len" = none) (ha : EV X env a d env1 p1) (hs : IsSeq d ds) (hg : Gl X "len" := by rfl) (h1 : starEach [a] X.env = (false, eval a X.env) :: starEach [] X.env := by rfl) (hpl : (backTo pos (starEach [] X.env)).any (·.1) = false := by rfl) : EV X env (.Call (.Name "len" pf) [a] [] pos) (.int (ds.length : Int)) env1 p1 := by
  cases hs with
  | l => exact ev_lenL hm ha hg h1 hpl
  | t => exact ev_lenT hm ha hg h1 hpl
/-- [elt for tg in it], pure -/
theorem lc {g : List Nat} (N : List Str) (sc : Scope) (own : List (Str × Nat)) (t : TgS) {α : Type} (xs : List α) (ga f : α → PyData) (envT : α → List Sv) (hi : IV X env tg it (xs.map ga) env1 p1 g) (hz : xs.length ≤ sizeLine) (hpg : ∀ b, PG (Blk X scope b) tg (gOf X.K t)) (hE : ∀ x ∈ xs, ∀ b, EV (Blk X scope b) (envT x) elt (f x) (envT x) true)
    (hc : X.calm = true := by rfl) (nd : X.N.Nodup := by assumption) (hN : X.N = N := by rfl) (hsc : X.env.scope = sc := by rfl) (hb : blkC N sc scope own = true := by decide +kernel) (hix : ((idxS t).all fun j => (own.map (·.2)).contains j) = true := by rfl) (hno : ((own.map (·.2)).all fun j => !isOwn env1[j]?) = true := by rfl)
    (hT : ∀ x, setS t (ga x) (wipeE env1 (own.map (·.2))) = some (envT x) := by intro _; rfl) (hsf : ∀ x, foldedSetIterable it X.env x = pure x := by intro _; rfl) : LC X env tg it .no elt scope own t (xs.map f) env1 p1 := by
  subst hN hsc
  exact lc0 xs ga f envT hc nd hi (blkOk_by hb) hpg (all_ix hix) (all_no hno) hz (fun x _ => hT x) hE hsf
/-- [elt for tg in it if c], pure -/
theorem lcIf {g : List Nat} (N : List Str) (sc : Scope) (own : List (Str × Nat)) (t : TgS) {α : Type} (xs : List α) (ga f : α → PyData) (bt : α → Bool) (envT : α → List Sv) (hi : IV X env tg it (xs.map ga) env1 p1 g) (hz : xs.length ≤ sizeLine) (hpg : ∀ b, PG (Blk X scope b) tg (gOf X.K t)) (hI : ∀ x ∈ xs, ∀ b, ET (Blk X scope b) (envT x) c (bt x) (envT x) true)
    (hE : ∀ x ∈ xs, bt x = true → ∀ b, EV (Blk X scope b) (envT x) elt (f x) (envT x) true)
    (hc : X.calm = true := by rfl) (nd : X.N.Nodup := by assumption) (hN : X.N = N := by rfl) (hsc : X.env.scope = sc := by rfl) (hb : blkC N sc scope own = true := by decide +kernel) (hix : ((idxS t).all fun j => (own.map (·.2)).contains j) = true := by rfl) (hno : ((own.map (·.2)).all fun j => !isOwn env1[j]?) = true := by rfl)
    (hT : ∀ x, setS t (ga x) (wipeE env1 (own.map (·.2))) = some (envT x) := by intro _; rfl) (hsf : ∀ x, foldedSetIterable it X.env x = pure x := by intro _; rfl) : LC X env tg it (.one c) elt scope own t ((xs.filter bt).map f) env1 p1 := by
  subst hN hsc
  exact lcI xs ga f bt envT hc nd hi (blkOk_by hb) hpg (all_ix hix) (all_no hno) hz (fun x _ => hT x) hI hE hsf
theorem LC.l {own : List (Str × Nat)} (h : LC X env tg it .no elt scope own t ds env1 p1) (hc : X.calm = true := by rfl) (nd : X.N.Nodup := by assumption) : EL X env (.ListComp elt [⟨tg, it, [], 0⟩] scope pos) ds env1 p1 := LC.el (i := .no) h hc nd
theorem LC.lI {own : List (Str × Nat)} (h : LC X env tg it (.one c) elt scope own t ds env1 p1) (hc : X.calm = true := by rfl) (nd : X.N.Nodup := by assumption) : EL X env (.ListComp elt [⟨tg, it, [c], 0⟩] scope pos) ds env1 p1 := LC.el (i := .one c) h hc nd
/-- targets -/
theorem pn (i : Nat) {x : Str} (nd : X.N.Nodup := by assumption) (hi : X.N[i]? = some x := by rfl) (hx : Loc X.env.scope x := by first | exact Or.inl rfl | exact Or.inr rfl) (hf : X.fn x = true ∨ X.env.scope.names.lookup x = some .local := by first | exact .inl rfl | exact .inr rfl) : PG X (.Name x pos) (gOf X.K (.nm i)) := pg_name nd hi hx hf
theorem pt2 {e1 e2 : Expr} {t1 t2 : TgS} {k : Nat} (h1 : PG X e1 (gOf X.K t1)) (h2 : PG X e2 (gOf X.K t2)) (hc : X.calm = true := by rfl) (hs : (assignEach [e1, e2] X.env).map (·.2) = assign e1 X.env :: (assignEach [e2] X.env).map (·.2) := by rfl) (hs2 : (assignEach [e2] X.env).map (·.2) = assign e2 X.env :: (assignEach [] X.env).map (·.2) := by rfl)
    (hn : (assignEach [e1, e2] X.env).length = 2 := by rfl) (hst : (assignEach [e1, e2] X.env).findIdx? (·.1) = none := by rfl) : PG X (.Tuple [e1, e2] k pos) (gOf X.K (.t2 t1 t2)) := pg_tup hc (pgs_cons h1 (pgs_cons h2 pgs_nil hs2) hs) hn hst
/-- for -/
theorem fr {g : List Nat} {body rest : List Stmt} {Q : List Sv → Oc → Prop} (t : TgS) (I : Nat → List Sv → Prop) (hi : IV X env tg it its env1 p1 g) (hg : PG X tg (gOf X.K t)) (h0 : I 0 env1) (hb : ∀ k d e, its[k]? = some d → I k e → ∃ envT, setS t d e = some envT ∧ SR X envT body (QL X rest Q (I (k + 1)))) (hr : ∀ e, I its.length e → SR X e rest Q)
    (hgs : ∀ k e, I k e → ∀ j ∈ g, e[j]? = env1[j]? := by intro _ _ _ _ h; simp at h) (hp : PassesOwn (model X.prog X.w) X.A X.env X.xe := by exact PassesOwn.never) (hc : X.calm = true := by rfl) (hs : ∀ x, foldedSetIterable it X.env x = pure x := by intro _; rfl) : SR X env (.For tg it body [] pos :: rest) Q := sr_for I hp hc hi hg h0 hgs hb hr hs
end
end Pu
end
section
set_option linter.all false
/-! the fractions of the program -/
namespace RB
open PySem
def rat (r : Rat) : PyData := .tuple [.int r.num, .int r.den]
def row (rs : List Rat) : PyData := .tuple (rs.map rat)
def zs (ns : List Int) : PyData := .list (ns.map .int)
def part (t b : Int) : Int := if decide (0 < b) = true then ((Nat.gcd t.natAbs b.natAbs : Nat) : Int) else -((Nat.gcd t.natAbs b.natAbs : Nat) : Int)
theorem gcd_pos {t b : Int} (h : b ≠ 0) : 0 < Nat.gcd t.natAbs b.natAbs := Nat.gcd_pos_of_pos_right _ (by omega)
theorem part_ne {t b : Int} (h : b ≠ 0) : part t b ≠ 0 := by
  have := gcd_pos (t := t) h
  unfold part
  split <;> omega
theorem part_le {t b : Int} (h : b ≠ 0) : (part t b).natAbs ≤ b.natAbs := by
  have h1 : Nat.gcd t.natAbs b.natAbs ≤ b.natAbs := Nat.gcd_le_right _ (by omega)
  unfold part
  split <;> omega
theorem frac {t b : Int} (h : b ≠ 0) : PyData.tuple [.int (t.fdiv (part t b)), .int (b.fdiv (part t b))] = rat ((t : Rat) / (b : Rat)) := by
  have g0 := gcd_pos (t := t) h
  have hn := Rat.num_divInt t b
  have hd := Rat.den_divInt t b
  rw [Rat.divInt_eq_div] at hn hd
  rw [if_neg h] at hd
  have hg : b.gcd t = Nat.gcd t.natAbs b.natAbs := Nat.gcd_comm _ _
  rw [hg] at hn hd
  unfold rat
  rw [hn, hd]
  have c : (((b.natAbs / Nat.gcd t.natAbs b.natAbs : Nat)) : Int) = (b.natAbs : Int) / ((Nat.gcd t.natAbs b.natAbs : Nat) : Int) := Int.natCast_ediv _ _
  rw [c]
  generalize hgg : ((Nat.gcd t.natAbs b.natAbs : Nat) : Int) = g
  have gp : 0 < g := by omega
  by_cases hb : 0 < b
  · have e : part t b = g := by unfold part; rw [if_pos (decide_eq_true hb), hgg]
    rw [e, Int.fdiv_eq_ediv_of_nonneg _ (by omega), Int.fdiv_eq_ediv_of_nonneg _ (by omega), Int.sign_eq_one_of_pos hb, Int.one_mul]
    have : (b.natAbs : Int) = b := by omega
    rw [this]
  · have e : part t b = -g := by unfold part; rw [if_neg (by simpa using hb), hgg]
    have e1 : t.fdiv (-g) = (-t).fdiv g := by rw [← Int.neg_fdiv_neg t (-g), Int.neg_neg]
    have e2 : b.fdiv (-g) = (-b).fdiv g := by rw [← Int.neg_fdiv_neg b (-g), Int.neg_neg]
    rw [e, e1, e2, Int.fdiv_eq_ediv_of_nonneg _ (by omega), Int.fdiv_eq_ediv_of_nonneg _ (by omega), Int.sign_eq_neg_one_of_neg (by omega)]
    have : (b.natAbs : Int) = -b := by omega
    rw [this]
    congr 2
    simp
theorem den_ne (r : Rat) : (r.den : Int) ≠ 0 := by have := r.den_pos; omega
theorem num_den (r : Rat) : ((r.num : Int) : Rat) / ((r.den : Int) : Rat) = r := by
  have h := SC.num_div_den r
  have n : ((r.den : Int) : Rat) ≠ 0 := by have := r.den_pos; exact_mod_cast den_ne r
  grind
theorem rat_add (a b : Rat) : ((a.num * b.den + b.num * a.den : Int) : Rat) / ((a.den * b.den : Int) : Rat) = a + b := by
  have h1 := SC.num_div_den a
  have h2 := SC.num_div_den b
  have n1 : ((a.den : Int) : Rat) ≠ 0 := by exact_mod_cast den_ne a
  have n2 : ((b.den : Int) : Rat) ≠ 0 := by exact_mod_cast den_ne b
  have e1 : ((a.num * b.den + b.num * a.den : Int) : Rat) = (a.num : Rat) * ((b.den : Int) : Rat) + (b.num : Rat) * ((a.den : Int) : Rat) := by push_cast; rfl
  have e2 : ((a.den * b.den : Int) : Rat) = ((a.den : Int) : Rat) * ((b.den : Int) : Rat) := by push_cast; rfl
  rw [e1, e2, h1, h2]
  grind
theorem rat_mul (a b : Rat) : ((a.num * b.num : Int) : Rat) / ((a.den * b.den : Int) : Rat) = a * b := by
  have h1 := SC.num_div_den a
  have h2 := SC.num_div_den b
  have n1 : ((a.den : Int) : Rat) ≠ 0 := by exact_mod_cast den_ne a
  have n2 : ((b.den : Int) : Rat) ≠ 0 := by exact_mod_cast den_ne b
  have e1 : ((a.num * b.num : Int) : Rat) = (a.num : Rat) * (b.num : Rat) := by push_cast; rfl
  have e2 : ((a.den * b.den : Int) : Rat) = ((a.den : Int) : Rat) * ((b.den : Int) : Rat) := by push_cast; rfl
  rw [e1, e2, h1, h2]
  grind
theorem gcd_one (r : Rat) : Nat.gcd r.num.natAbs ((r.den : Int)).natAbs = 1 := r.reduced
/-- sizes -/
def Sm (B : Nat) (r : Rat) : Prop := r.num.natAbs < 2 ^ B ∧ r.den < 2 ^ B
theorem log_lt {n B : Nat} (h : n < 2 ^ B) (hB : 0 < B) : n.log2 < B := by
  by_cases z : n = 0
  · subst z; simpa using hB
  · exact (Nat.log2_lt z).mpr h
theorem Sm.n {r : Rat} (h : Sm 4000 r) : r.num.natAbs < 2 ^ 9000 := Nat.lt_of_lt_of_le h.1 (Nat.pow_le_pow_right (by decide) (by decide))
theorem Sm.d {r : Rat} (h : Sm 4000 r) : ((r.den : Int)).natAbs < 2 ^ 9000 := Nat.lt_of_lt_of_le h.2 (Nat.pow_le_pow_right (by decide) (by decide))
end RB
end
section
set_option Elab.async false
set_option linter.all false
set_option maxRecDepth 100000
set_option maxHeartbeats 2000000
/-! the class RowBasis, as an object of the frame's own -/
namespace RW
open PySem PySem.Spec L2 Pu RB
def bf (lb le : Addr) : List (Str × V) := putF "echelon" (.ref le) (putF "bottoms" (.ref lb) [])
theorem be_ : ¬ (("bottoms" : Str) = "echelon") := by decide +kernel
theorem bf_b (lb le : Addr) : (bf lb le).lookup ("bottoms" : Str) = some (.ref lb) := by
  unfold bf
  rw [lookup_putF, if_neg (by decide +kernel), lookup_putF, if_pos rfl]
theorem bf_e (lb le : Addr) : (bf lb le).lookup ("echelon" : Str) = some (.ref le) := by
  unfold bf
  rw [lookup_putF, if_pos rfl]
theorem bf_no (lb le : Addr) {m : Str} (h1 : ¬ m = "echelon") (h2 : ¬ m = "bottoms") : (bf lb le).lookup m = none := by
  unfold bf
  rw [lookup_putF, if_neg h1, lookup_putF, if_neg h2]
  all_goals rfl
def ech (x : Nat × List Int) : PyData := .tuple [.int (x.1 : Nat), zs x.2]
def basA (K : PySem.W.Frag) (C p dx lb le : Addr) (B : List Int) (E : List (Nat × List Int)) : Own where
  P := fun v H0 H F => v = .ref p ∧ F = [p, dx, lb, le] ∧ lb ≠ le ∧ H p = some (.ins C dx (bf lb le)) ∧ H dx = some (.own p) ∧ ∃ xs ys, H lb = some (.lst xs) ∧ H le = some (.lst ys) ∧ DqAll K H0 xs (B.map .int) ∧ DqAll K H0 ys (E.map ech)
  st := fun {v H0 H H0' H' F} h e k => by
    obtain ⟨rfl, rfl, ne, h1, h2, xs, ys, h3, h4, h5, h6⟩ := h
    exact ⟨rfl, rfl, ne, k _ (by simp) _ h1, k _ (by simp) _ h2, xs, ys, k _ (by simp) _ h3, k _ (by simp) _ h4, DqAllM h5 e, DqAllM h6 e⟩
def basO (K : PySem.W.Frag) (C : Addr) (B : List Int) (E : List (Nat × List Int)) : Own where
  P := fun v H0 H F => ∃ p dx lb le, (basA K C p dx lb le B E).P v H0 H F
  st := fun {v H0 H H0' H' F} h e k => by
    obtain ⟨p, dx, lb, le, h⟩ := h
    exact ⟨p, dx, lb, le, (basA K C p dx lb le B E).st h e k⟩
theorem fix {K : PySem.W.Frag} {C p dx lb le : Addr} {B B' : List Int} {E E' : List (Nat × List Int)} : Fix (basA K C p dx lb le B E) (basA K C p dx lb le B' E') := ⟨p, fun _ _ _ _ h => h.1, fun _ _ _ _ h => h.1⟩
structure Cl (K : PySem.W.Frag) (C : Addr) : Prop where
  cl : Cls K C
  nB : NoAttr K C "bottoms"
  nE : NoAttr K C "echelon"
section
variable {X : Cx} {env env1 env2 : List Sv} {rest : List Stmt} {es : List Expr} {a b e tg : Expr} {d : PyData} {ds : List PyData} {p1 p2 : Bool} {C p dx lb le : Addr} {B : List Int} {E : List (Nat × List Int)} {i : Nat} {x : Str} {np ap pos pf cpos apos tpos : Pos} {Q : List Sv → Oc → Prop}
/-- the object as the slot has it -/
theorem bas_at {σ : L2.St} {H0 H : Hp} {F : Fp} (S : Sl X.K env σ H0 H F) (hi : env[i]? = some (.own (basA X.K C p dx lb le B E))) : σ[i]? = some (some (.ref p)) ∧ H p = some (.ins C dx (bf lb le)) ∧ lb ≠ le ∧ ∃ xs ys, H lb = some (.lst xs) ∧ H le = some (.lst ys) ∧ DqAll X.K H0 xs (B.map .int) ∧ DqAll X.K H0 ys (E.map ech) := by
  obtain ⟨v, hv, rfl, hF, ne, h1, h2, xs, ys, h3, h4, h5, h6⟩ := S.ok i _ hi
  exact ⟨hv, h1, ne, xs, ys, h3, h4, h5, h6⟩
/-- len(self.bottoms) -/
theorem ev_lenB (c : Cl X.K C) (hm : X.mg "len" = none) (hN : X.N[i]? = some x) (hv : Vis X.env.scope x) (hi : env[i]? = some (.own (basA X.K C p dx lb le B E))) (hd : (x == ("__debug__" : Str)) = false := by decide) (hcd : (x == ("__classdict__" : Str)) = false := by decide) (hb : attributeBase (.Name x np) "bottoms" X.env (eval (.Name x np) X.env) = eval (.Name x np) X.env := by rfl) (hg : Gl X "len" := by rfl)
    (h1 : starEach [.Attribute (.Name x np) "bottoms" ap] X.env = (false, eval (.Attribute (.Name x np) "bottoms" ap) X.env) :: starEach [] X.env := by rfl) (hpl : (backTo pos (starEach [] X.env)).any (·.1) = false := by rfl) : EV X env (.Call (.Name "len" pf) [.Attribute (.Name x np) "bottoms" ap] [] pos) (.int (B.length : Int)) env true :=
  .of (pe_callB call_len_seq hg hm PySem.boot_len (pa_cons (pe_fld (pe_var hN hv hd hcd) hb) pa_nil h1) (by decide) (by decide) h1 hpl) fun σ H0 H F S => by
    obtain ⟨e, hp, ne, xs, ys, h3, h4, h5, h6⟩ := bas_at S hi
    refine ⟨_, e, p, C, dx, _, _, rfl, hp, c.cl, c.nB, bf_b _ _, _, xs, rfl, .inl (SqL.of h3), ?_⟩
    rw [show xs.length = B.length by rw [da_len h5]; simp]
    exact .mk (.refl S) (.int _)
/-- for .. in self.echelon -/
theorem iv_ech (c : Cl X.K C) (hN : X.N[i]? = some x) (hv : Vis X.env.scope x) (hi : env[i]? = some (.own (basA X.K C p dx lb le B E))) (hd : (x == ("__debug__" : Str)) = false := by decide) (hcd : (x == ("__classdict__" : Str)) = false := by decide) (hb : attributeBase (.Name x np) "echelon" X.env (eval (.Name x np) X.env) = eval (.Name x np) X.env := by rfl) :
    IV X env tg (.Attribute (.Name x np) "echelon" ap) (E.map ech) env true [i] :=
  ⟨_, pi_list (pe_fld (pe_var hN hv hd hcd) hb), fun σ H0 H F R S q => by
    obtain ⟨e, hp, ne, xs, ys, h3, h4, h5, h6⟩ := bas_at S hi
    refine ⟨_, e, p, C, dx, _, _, rfl, hp, c.cl, c.nE, bf_e _ _, _, rfl, ⟨ys, SqL.of h4⟩, q _ _ _ _ (.refl S) ⟨fun k envx σx H0' H' Fx S' g e' hk => ?_, fun envx σx H0' H' Fx S' g e' => ?_, fun k d envx σx H0' H' Fx y H2 S' g e' hk hy => ?_⟩⟩
    · obtain ⟨_, _, _, xs', ys', _, h4', _, h6'⟩ := bas_at S' ((g i (by simp)).trans hi)
      obtain ⟨w, hw, _⟩ := da_at h6' (List.getElem?_eq_getElem hk)
      exact ⟨ys', w, SqL.of h4', hw⟩
    · obtain ⟨_, _, _, xs', ys', _, h4', _, h6'⟩ := bas_at S' ((g i (by simp)).trans hi)
      exact ⟨ys', SqL.of h4', by rw [da_len h6']; exact Nat.le_refl _⟩
    · obtain ⟨_, _, _, xs', ys', _, h4', _, h6'⟩ := bas_at S' ((g i (by simp)).trans hi)
      obtain ⟨z, hy⟩ := hy
      subst z
      obtain ⟨w, hw, dw⟩ := da_at h6' hk
      have := hy ys' (SqL.of h4')
      rw [hw] at this
      cases this
      exact ⟨H0', .refl S'.ex, dw⟩⟩
/-- zip(a, self.bottoms, strict=True) -/
theorem iv_zipB {elts : List Expr} {kk jj : Nat} {nm : Str} {kp cp : Pos} (c : Cl X.K C) (hm : X.mg "zip" = none) (ha : EV X env a (.list ds) env true) (hl : ds.length = B.length) (hN : X.N[i]? = some x) (hv : Vis X.env.scope x) (hi : env[i]? = some (.own (basA X.K C p dx lb le B E))) (hd : (x == ("__debug__" : Str)) = false := by decide) (hcd : (x == ("__classdict__" : Str)) = false := by decide)
    (hb : attributeBase (.Name x np) "bottoms" X.env (eval (.Name x np) X.env) = eval (.Name x np) X.env := by rfl) (hg : Gl X "zip" := by rfl) (hnm : nm = Str.ofString "strict" := by rfl)
    (hs : starEach [a, .Attribute (.Name x np) "bottoms" ap] X.env = (false, eval a X.env) :: starEach [.Attribute (.Name x np) "bottoms" ap] X.env := by rfl) (hs2 : starEach [.Attribute (.Name x np) "bottoms" ap] X.env = (false, eval (.Attribute (.Name x np) "bottoms" ap) X.env) :: starEach [] X.env := by rfl)
    (hpl : ((backTo pos (starEach [a, .Attribute (.Name x np) "bottoms" ap] X.env)).any (·.1) || (backToKw pos (keywordEach [⟨some nm, .Constant (.bool true) jj cp, kp⟩] X.env)).any (·.1.isNone)) = false := by rfl) :
    IV X env (.Tuple elts kk tpos) (.Call (.Name "zip" pf) [a, .Attribute (.Name x np) "bottoms" ap] [⟨some nm, .Constant (.bool true) jj cp, kp⟩] pos) (List.zipWith (fun x y => .tuple [x, y]) ds (B.map .int)) env true [i] :=
  ⟨_, ZS.pi_zipS hg hm (pa_cons pe_ev (pa_cons (pe_fld (pe_var hN hv hd hcd) hb) pa_nil hs2) hs) hnm hs hpl, fun σ H0 H F R S q => tEV.go ha S fun w H01 H1 F1 b1 d1 => by
    obtain ⟨e, hp, ne, xs, ys, h3, h4, h5, h6⟩ := bas_at b1.s hi
    cases d1 with
    | lst hs0 hall =>
      refine ⟨_, e, p, C, dx, _, _, rfl, hp, c.cl, c.nB, bf_b _ _, false, false, _, _, _, xs, rfl, SqL.of (b1.s.ex _ _ hs0), SqL.of h3, q _ _ _ _ b1 ⟨fun k envx σx H0' H' Fx S' g e' hk => ?_, fun envx σx H0' H' Fx S' g e' => ?_, fun k d envx σx H0' H' Fx y H2 S' g e' hk hy => ?_⟩⟩
      · obtain ⟨_, _, _, xs', ys', h3', _, h5', _⟩ := bas_at S' ((g i (by simp)).trans hi)
        refine ⟨_, xs', SqL.of (S'.ex _ _ (e' _ _ hs0)), SqL.of h3', ?_, ?_⟩
        · rw [da_len hall, da_len h5', hl]; simp
        · rw [da_len hall]; simp at hk; omega
      · obtain ⟨_, _, _, xs', ys', h3', _, h5', _⟩ := bas_at S' ((g i (by simp)).trans hi)
        refine ⟨_, xs', SqL.of (S'.ex _ _ (e' _ _ hs0)), SqL.of h3', ?_, ?_⟩
        · rw [da_len hall]; simp; omega
        · rw [da_len h5']; simp; omega
      · obtain ⟨_, _, _, xs', ys', h3', _, h5', _⟩ := bas_at S' ((g i (by simp)).trans hi)
        obtain ⟨T, u, u2, rfl, hT, rfl, f1, f2⟩ := hy
        have g1 := f1 _ (SqL.of (S'.ex _ _ (e' _ _ hs0)))
        have g2 := f2 xs' (SqL.of h3')
        obtain ⟨z1, hz1, q1⟩ := da_at' (DqAllM hall e') g1
        obtain ⟨z2, hz2, q2⟩ := da_at' h5' g2
        rw [List.getElem?_zipWith, hz1, hz2] at hk
        simp at hk
        subst hk
        exact pair_new S'.ex hT q1 q2⟩
/-- the object has grown by items -/
theorem Sl.grow {σ : L2.St} {H0 H : Hp} {F : Fp} {B' : List Int} {E' : List (Nat × List Int)} {l : Addr} {zs' : List V} (S : Sl X.K env σ H0 H F) (hi : env[i]? = some (.own (basA X.K C p dx lb le B E))) (hl : (l = lb ∧ DqAll X.K H0 zs' (B'.map .int) ∧ E' = E) ∨ (l = le ∧ DqAll X.K H0 zs' (E'.map ech) ∧ B' = B)) :
    Sl X.K (env.set i (.own (basA X.K C p dx lb le B' E'))) σ H0 (upd H l (.lst zs')) (setF F i (F i)) ∧ Go H0 H F H0 (upd H l (.lst zs')) (setF F i (F i)) := by
  obtain ⟨v, hv, rfl, hF, ne, h1, h2, xs, ys, h3, h4, h5, h6⟩ := S.ok i _ hi
  have hm : l ∈ F i := by
    rw [hF]
    rcases hl with ⟨rfl, _⟩ | ⟨rfl, _⟩ <;> simp
  have n0 : H0 l = none := (S.out i l hm).1
  have hlst : ∃ q, H l = some (.lst q) := by
    rcases hl with ⟨rfl, _⟩ | ⟨rfl, _⟩
    · exact ⟨_, h3⟩
    · exact ⟨_, h4⟩
  obtain ⟨q0, hq0⟩ := hlst
  have npl : p ≠ l := fun z => by rw [z, hq0] at h1; cases h1
  have ndl : dx ≠ l := fun z => by rw [z, hq0] at h2; cases h2
  refine S.sub (List.getElem?_eq_some_iff.mp hi).1 ⟨.refl _, fun a o h n => ?_, fun a o h n k => ⟨n, one_no (fun m => k 0 (by unfold one; rw [if_pos rfl]; exact m))⟩, fun a o h => ?_⟩ (fun a u q => ?_) hv ?_ fun a m => ⟨(S.out i a m).1, ?_⟩
  · have : a ≠ l := fun z => n 0 (by unfold one; rw [if_pos rfl, z]; exact hm)
    rw [upd_ne this]
    exact h
  · by_cases z : a = l
    · subst z; exact ⟨_, upd_same⟩
    · rw [upd_ne z]; exact ⟨o, h⟩
  · have : a ≠ l := fun z => by rw [z, n0] at q; cases q
    rw [upd_ne this]
    exact S.ex a u q
  · refine ⟨rfl, hF, ne, by rw [upd_ne npl]; exact h1, by rw [upd_ne ndl]; exact h2, ?_⟩
    rcases hl with ⟨rfl, hd, rfl⟩ | ⟨rfl, hd, rfl⟩
    · exact ⟨zs', ys, upd_same, by rw [upd_ne ne.symm]; exact h4, hd, h6⟩
    · exact ⟨xs, zs', by rw [upd_ne ne]; exact h3, upd_same, h5, hd⟩
  · by_cases z : a = l
    · subst z; exact ⟨_, upd_same⟩
    · rw [upd_ne z]; exact (S.out i a m).2
/-- self.echelon.append(e) -/
theorem sr_appE {k : Nat} {ns : List Int} (c : Cl X.K C) (hN : X.N[i]? = some x) (hv : Vis X.env.scope x) (hi : env[i]? = some (.own (basA X.K C p dx lb le B E))) (he : EV X env e (ech (k, ns)) env true) (hz : E.length < sizeLine) (hr : SR X (env.set i (.own (basA X.K C p dx lb le B (E ++ [(k, ns)])))) rest Q)
    (hd : (x == ("__debug__" : Str)) = false := by decide) (hcd : (x == ("__classdict__" : Str)) = false := by decide) (hb : attributeBase (.Name x np) "echelon" X.env (eval (.Name x np) X.env) = eval (.Name x np) X.env := by rfl)
    (hs : swapsWith (.Call (.Attribute (.Attribute (.Name x np) "echelon" ap) "append" apos) [e] [] cpos) none pos.line X.env = pure false := by rfl)
    (hbase : attributeBase (.Attribute (.Name x np) "echelon" ap) "append" X.env (eval (.Attribute (.Name x np) "echelon" ap) X.env) = eval (.Attribute (.Name x np) "echelon" ap) X.env := by rfl)
    (hfew : ((backTo cpos (starEach [e] X.env)).all (fun x => !x.1) && (backToKw cpos (keywordEach [] X.env)).all (fun x => x.1.isSome) && decide ([e].length + ([] : List Keyword).length + (if ([] : List Keyword).isEmpty then 0 else 1) < 30)) = true := by rfl)
    (hline : (apos.endLine == cpos.line) = true := by rfl) (hse : starEach [e] X.env = (false, eval e X.env) :: starEach [] X.env := by rfl) (hpl : (backTo cpos (starEach [] X.env)).any (·.1) = false := by rfl) :
    SR X env (.Expr (.Call (.Attribute (.Attribute (.Name x np) "echelon" ap) "append" apos) [e] [] cpos) pos :: rest) Q := by
  refine sr_cons (ps_expr (pe_bm PySem.F.plainAttrs_list PySem.F.slot_list_append PySem.F.type_list_append mt_append (pe_fld (pe_var hN hv hd hcd) hb) (pa_cons pe_ev pa_nil hse) hbase hfew hline hse hpl) hs) hr fun σ H0 H F D S f => ?_
  obtain ⟨e0, hp, ne, xs, ys, h3, h4, h5, h6⟩ := bas_at S hi
  refine ⟨_, e0, p, C, dx, _, _, rfl, hp, c.cl, c.nE, bf_e _ _, .inl ⟨rfl, ys, SqL.of h4⟩, tEV.go he S fun u H01 H1 F1 b1 d1 => ?_⟩
  obtain ⟨e1, hp1, ne1, xs1, ys1, h31, h41, h51, h61⟩ := bas_at b1.s hi
  refine ⟨le, ys1, u, rfl, rfl, h41, by rw [da_len h61]; simpa using hz, ?_⟩
  obtain ⟨S2, g2⟩ := Sl.grow (B' := B) (E' := E ++ [(k, ns)]) b1.s hi (l := le) (zs' := ys1 ++ [u]) (.inr ⟨rfl, by rw [List.map_append]; exact da_app h61 (.cons d1 .nil), rfl⟩)
  exact f σ _ _ _ S2 (b1.g.trans b1.s.goS g2)
/-- self.bottoms.append(e) -/
theorem sr_appB {n : Int} (c : Cl X.K C) (hN : X.N[i]? = some x) (hv : Vis X.env.scope x) (hi : env[i]? = some (.own (basA X.K C p dx lb le B E))) (he : EV X env e (.int n) env true) (hz : B.length < sizeLine) (hr : SR X (env.set i (.own (basA X.K C p dx lb le (B ++ [n]) E))) rest Q)
    (hd : (x == ("__debug__" : Str)) = false := by decide) (hcd : (x == ("__classdict__" : Str)) = false := by decide) (hb : attributeBase (.Name x np) "bottoms" X.env (eval (.Name x np) X.env) = eval (.Name x np) X.env := by rfl)
    (hs : swapsWith (.Call (.Attribute (.Attribute (.Name x np) "bottoms" ap) "append" apos) [e] [] cpos) none pos.line X.env = pure false := by rfl)
    (hbase : attributeBase (.Attribute (.Name x np) "bottoms" ap) "append" X.env (eval (.Attribute (.Name x np) "bottoms" ap) X.env) = eval (.Attribute (.Name x np) "bottoms" ap) X.env := by rfl)
    (hfew : ((backTo cpos (starEach [e] X.env)).all (fun x => !x.1) && (backToKw cpos (keywordEach [] X.env)).all (fun x => x.1.isSome) && decide ([e].length + ([] : List Keyword).length + (if ([] : List Keyword).isEmpty then 0 else 1) < 30)) = true := by rfl)
    (hline : (apos.endLine == cpos.line) = true := by rfl) (hse : starEach [e] X.env = (false, eval e X.env) :: starEach [] X.env := by rfl) (hpl : (backTo cpos (starEach [] X.env)).any (·.1) = false := by rfl) :
    SR X env (.Expr (.Call (.Attribute (.Attribute (.Name x np) "bottoms" ap) "append" apos) [e] [] cpos) pos :: rest) Q := by
  refine sr_cons (ps_expr (pe_bm PySem.F.plainAttrs_list PySem.F.slot_list_append PySem.F.type_list_append mt_append (pe_fld (pe_var hN hv hd hcd) hb) (pa_cons pe_ev pa_nil hse) hbase hfew hline hse hpl) hs) hr fun σ H0 H F D S f => ?_
  obtain ⟨e0, hp, ne, xs, ys, h3, h4, h5, h6⟩ := bas_at S hi
  refine ⟨_, e0, p, C, dx, _, _, rfl, hp, c.cl, c.nB, bf_b _ _, .inl ⟨rfl, xs, SqL.of h3⟩, tEV.go he S fun u H01 H1 F1 b1 d1 => ?_⟩
  obtain ⟨e1, hp1, ne1, xs1, ys1, h31, h41, h51, h61⟩ := bas_at b1.s hi
  refine ⟨lb, xs1, u, rfl, rfl, h31, by rw [da_len h51]; simpa using hz, ?_⟩
  obtain ⟨S2, g2⟩ := Sl.grow (B' := B ++ [n]) (E' := E) b1.s hi (l := lb) (zs' := xs1 ++ [u]) (.inl ⟨rfl, by rw [List.map_append]; exact da_app h51 (.cons d1 .nil), rfl⟩)
  exact f σ _ _ _ S2 (b1.g.trans b1.s.goS g2)

/-! ### its methods -/
/-- a method of the class that keeps a promise -/
structure Dm (P : Program) (w : World) (K : PySem.W.Frag) (mg : Str → Option Value) (base : Heap) (C : Addr) (k : Nat) (m : Str) (sp : Sp) : Prop where
  ex : ∃ f fd ps, FnOk P w K mg base CX0 k f fd ps sp ∧ Meth K C m f ∧ Binds K fd ps []
  no : ¬ m = "echelon" ∧ ¬ m = "bottoms"
theorem ev_meth {k : Nat} {m : Str} {e1 : Expr} {B' : List Int} {E' : List (Nat × List Int)} {R : Own → List PyData → PyData → Own → Prop} {pl : Sem Bool} (c : Cl X.K C) (D : Dm X.prog X.w X.K X.mg X.base C k m (spO X.K R)) (hr : Room k X.A) (hN : X.N[i]? = some x) (hv : Vis X.env.scope x) (hi : env[i]? = some (.own (basA X.K C p dx lb le B E))) (ha : EA X env (e1 :: es) ds env true)
    (hR : R (basA X.K C p dx lb le B E) ds d (basA X.K C p dx lb le B' E')) (hd : (x == ("__debug__" : Str)) = false := by decide) (hcd : (x == ("__classdict__" : Str)) = false := by decide)
    (hst : starEach (e1 :: es) X.env = (false, eval e1 X.env) :: starEach es X.env := by rfl) (hpl : (backTo pos (starEach es X.env)).any (·.1) = false := by rfl)
    (ht : eval (.Call (.Attribute (.Name x np) m apos) (e1 :: es) [] pos) X.env = (do
      let ov ← eval (.Name x np) X.env
      standAt apos.atName
      let (f, first) ← holding [ov] (getMethod ov m pl)
      callWith pos f first (backTo pos (starEach (e1 :: es) X.env)) (backToKw pos (keywordEach [] X.env))) := by rfl) :
    EV X env (.Call (.Attribute (.Name x np) m apos) (e1 :: es) [] pos) d (env.set i (.own (basA X.K C p dx lb le B' E'))) false := by
  obtain ⟨fa, fd, ps, F, M, hb⟩ := D.ex
  refine .of (pe_meth (pl := pl) (pe_var hN hv hd hcd) c.cl M F hr hb .nil pass0 pa_ea hst hpl ht) fun σ H0 H F S => ?_
  obtain ⟨e0, hp, _⟩ := bas_at S hi
  refine ⟨_, e0, p, dx, _, rfl, hp, bf_no _ _ D.no.1 D.no.2, tEA.go ha S fun vs H01 H1 F1 b1 d1 => ?_⟩
  show spO X.K R (V.ref p :: (vs ++ [])) H1 _ _
  rw [List.append_nil]
  obtain ⟨v1, e1, q1⟩ := b1.s.ok i _ hi
  have ev : v1 = .ref p := q1.1
  subst ev
  refine ⟨_, ds, d, _, H01, _, F1 i, vs, rfl, hR, b1.s.ex, q1, b1.s.out i, d1, fun v H0' H' f' e g hp hf hv => ?_⟩
  obtain ⟨S2, g2⟩ := b1.s.sub (List.getElem?_eq_some_iff.mp hi).1 g e e1 hp hf
  exact .mk ⟨S2, b1.g.trans b1.s.goS g2, nofun⟩ hv
theorem ev_meth0 {k : Nat} {m : Str} {B' : List Int} {E' : List (Nat × List Int)} {R : Own → List PyData → PyData → Own → Prop} {pl : Sem Bool} (c : Cl X.K C) (D : Dm X.prog X.w X.K X.mg X.base C k m (spO X.K R)) (hr : Room k X.A) (hN : X.N[i]? = some x) (hv : Vis X.env.scope x) (hi : env[i]? = some (.own (basA X.K C p dx lb le B E)))
    (hR : R (basA X.K C p dx lb le B E) [] d (basA X.K C p dx lb le B' E')) (hd : (x == ("__debug__" : Str)) = false := by decide) (hcd : (x == ("__classdict__" : Str)) = false := by decide)
    (ht : eval (.Call (.Attribute (.Name x np) m apos) [] [] pos) X.env = (do
      let ov ← eval (.Name x np) X.env
      standAt apos.atName
      let (f, first) ← holding [ov] (getMethod ov m pl)
      callWith pos f first (backTo pos (starEach [] X.env)) (backToKw pos (keywordEach [] X.env))) := by rfl) :
    EV X env (.Call (.Attribute (.Name x np) m apos) [] [] pos) d (env.set i (.own (basA X.K C p dx lb le B' E'))) false := by
  obtain ⟨fa, fd, ps, F, M, hb⟩ := D.ex
  refine .of (pe_meth0 (pl := pl) (pe_var hN hv hd hcd) c.cl M F hr hb .nil pass0 ht) fun σ H0 H F S => ?_
  obtain ⟨e0, hp, _⟩ := bas_at S hi
  refine ⟨_, e0, p, dx, _, rfl, hp, bf_no _ _ D.no.1 D.no.2, ?_⟩
  show spO X.K R (V.ref p :: ([] ++ [])) H (VKp X.K (env.set i (.own (basA X.K C p dx lb le B' E'))) σ H0 H F d false) E0
  obtain ⟨v1, e1, q1⟩ := S.ok i _ hi
  have ev : v1 = .ref p := q1.1
  subst ev
  refine ⟨_, [], d, _, H0, _, F i, [], rfl, hR, S.ex, q1, S.out i, .nil, fun v H0' H' f' e g hp hf hv => ?_⟩
  obtain ⟨S2, g2⟩ := S.sub (List.getElem?_eq_some_iff.mp hi).1 g e e1 hp hf
  exact .mk ⟨S2, g2, nofun⟩ hv

/-! ### to make one -/
def spInit (C : Addr) : Sp := fun vs H Q _ => ∃ p dx, vs = [.ref p] ∧ H p = some (.ins C dx []) ∧ ∀ H' lb le, (∀ a o, H a = some o → a ≠ p → H' a = some o) → H' p = some (.ins C dx (bf lb le)) → H lb = none → H le = none → lb ≠ le → H' lb = some (.lst []) → H' le = some (.lst []) → Q .non H'
theorem eg_make {f : Addr} {fd : FuncData} {k : Nat} {cn : Str} (c : Cl X.K C) (M : Mk X.K C f) (F : FnOk X.prog X.w X.K X.mg X.base CX0 k f fd ["self"] (spInit C)) (bI : Binds X.K fd ["self"] []) (hr : Room (k + 1) X.A) (hm : X.mg cn = some (.ref C)) (hg : Gl X cn := by rfl) (hdb : (cn == ("__debug__" : Str)) = false := by decide) :
    EG X env (.Call (.Name cn pf) [] [] pos) (.own (basO X.K C [] [])) env true :=
  .of (pe_make0 M F hr hg hm bI .nil pass0 hdb) fun σ H0 H F S => by
    intro x dx nx ndx nex
    refine ⟨x, dx, rfl, upd_same, fun H' lb le keep hp nb ne nbe hb he => ⟨rfl, ?_⟩⟩
    have hxd : upd (upd H dx (.own x)) x (.ins C dx []) dx = some (.own x) := by rw [upd_ne nex, upd_same]
    have sub : Same H H' := fun a o h => keep a o (by rw [upd_ne (ne_of_none h nx), upd_ne (ne_of_none h ndx)]; exact h) (ne_of_none h nx)
    have nb0 : H lb = none := by
      have z1 : lb ≠ x := fun z => by rw [z, upd_same] at nb; cases nb
      have z2 : lb ≠ dx := fun z => by rw [z, hxd] at nb; cases nb
      rwa [upd_ne z1, upd_ne z2] at nb
    have ne0 : H le = none := by
      have z1 : le ≠ x := fun z => by rw [z, upd_same] at ne; cases ne
      have z2 : le ≠ dx := fun z => by rw [z, hxd] at ne; cases ne
      rwa [upd_ne z1, upd_ne z2] at ne
    have hdx : H' dx = some (.own x) := keep dx _ hxd nex
    have bn : Bnd X.K env σ H0 H F true H0 H' F := ⟨S.new ⟨.refl _, S.ex.trans sub, sub, fun _ _ _ n => n⟩, (New.go ⟨.refl _, S.ex.trans sub, sub, fun _ _ _ n => n⟩), fun _ => ⟨rfl, .refl _, S.ex.trans sub, sub, fun _ _ _ n => n⟩⟩
    refine ⟨H0, F, [x, dx, lb, le], bn, ⟨x, dx, lb, le, rfl, rfl, nbe, hp, hdx, [], [], hb, he, .nil, .nil⟩, fun a m => ?_⟩
    have hn : H a = none ∧ ∃ o, H' a = some o := by
      simp only [List.mem_cons, List.not_mem_nil, or_false] at m
      rcases m with z | z | z | z
      · rw [z]; exact ⟨nx, _, hp⟩
      · rw [z]; exact ⟨ndx, _, hdx⟩
      · rw [z]; exact ⟨nb0, _, hb⟩
      · rw [z]; exact ⟨ne0, _, he⟩
    refine ⟨hn.1, same_none S.ex hn.1, hn.2, fun j mj => ?_⟩
    obtain ⟨_, o, e⟩ := S.out j a mj
    rw [hn.1] at e
    cases e
end
end RW
end
section
set_option Elab.async false
set_option linter.all false
set_option maxRecDepth 100000
set_option maxHeartbeats 2000000
namespace K46
open PySem PySem.Spec L2 Pu RB
def top (i : Nat) : Stmt := PySem.Challenge.pw_copiedcurves_k46_whole_roots_within_1_by.main.body.getD i (.Pass ⟨0, 0, 0, 0⟩)
/-- what the module's names stand for -/
structure Txt (K : PySem.W.Frag) (mg : Str → Option Value) : Prop where
  gcd : mg "gcd" = some (.builtin "math.gcd")
  lcm : mg "lcm" = some (.builtin "math.lcm")
  one : ∃ v u, mg "ONE" = some u ∧ RelV v u ∧ ∀ H, Dq K H v (rat 1)
  none : ∃ v u, mg "NONE" = some u ∧ RelV v u ∧ ∀ H, Dq K H v (rat 0)
  less : ∃ v u, mg "LESS" = some u ∧ RelV v u ∧ ∀ H, Dq K H v (rat (-1))
  isi : mg "isinstance" = Option.none
  int : mg "int" = Option.none
  bool : mg "bool" = Option.none
  tuple : mg "tuple" = Option.none
  len : mg "len" = Option.none
  any : mg "any" = Option.none
  sum : mg "sum" = Option.none
  abs : mg "abs" = Option.none
  max : mg "max" = Option.none
  zip : mg "zip" = Option.none
  range : mg "range" = Option.none
  enum : mg "enumerate" = Option.none
  repr : mg "repr" = Option.none
abbrev FO (P : Program) (w : World) (K : PySem.W.Frag) (mg : Str → Option Value) (base : Heap) (k : Nat) (f : Addr) (fd : FuncData) (ps : List Str) (C : List PyData → PyData → Prop) : Prop := FnOk P w K mg base CX0 k f fd ps (spP K C)
abbrev DP (P : Program) (w : World) (K : PySem.W.Frag) (mg : Str → Option Value) (base : Heap) (k : Nat) (x : Str) (C : List PyData → PyData → Prop) : Prop := Df P w K mg base k x (spP K C)
section
variable {P : Program} {w : World} {K : PySem.W.Frag} {mg : Str → Option Value} {base : Heap} {f : Addr} {fd : FuncData}

/-! is_whole -/
abbrev s4 : Stmt := top 4
theorem sc4 : FnScope ["value"] ["value"] (defScope s4) := ⟨rfl, rfl, rfl, by decide +kernel, rfl, by decide +kernel, by decide +kernel⟩
def cWhole : List PyData → PyData → Prop := fun ds d => ∃ i, ds = [.int i] ∧ d = .bool true
theorem ok_is_whole (F : Fun K "is_whole" "is_whole" s4 f fd) (T : Txt K mg) : FO P w K mg base 1 f fd ["value"] cWhole := by
  refine fn_pure F sc4 (fun ds d ⟨i, h, _⟩ => by rw [h]; rfl) fun cdv A outer s H E hr ds d ⟨i, hds, hd⟩ => ?_
  subst hds hd
  exact sr_ret (ev_and (isInt T.isi T.int (v 0)) fun _ => ev_one (ev_not (isBool T.isi T.bool (v 0)))) (qr rfl)

/-! ratio_of -/
abbrev s5 : Stmt := top 5
theorem sc5 : FnScope ["top", "bottom", "part"] ["top", "bottom"] (defScope s5) := ⟨rfl, rfl, rfl, by decide +kernel, rfl, by decide +kernel, by decide +kernel⟩
def cRatioOf : List PyData → PyData → Prop := fun ds d => ∃ t b : Int, ds = [.int t, .int b] ∧ b ≠ 0 ∧ b.natAbs < 2 ^ 9000 ∧ d = rat ((t : Rat) / (b : Rat))
theorem ok_ratio_of (F : Fun K "ratio_of" "ratio_of" s5 f fd) (T : Txt K mg) : FO P w K mg base 1 f fd ["top", "bottom"] cRatioOf := by
  refine fn_pure F sc5 (fun ds d ⟨t, b, h, _⟩ => by rw [h]; rfl) fun cdv A outer s H E hr ds d ⟨t, b, hds, h0, hb, hd⟩ => ?_
  subst hds hd
  have nd := sc5.nd
  have hp : ∀ x, CDivA x (RB.part t b) := fun x => ⟨part_ne h0, log_lt (Nat.lt_of_le_of_lt (part_le h0) hb) (by decide)⟩
  refine as 2 (d := .int (RB.part t b)) (ev_ifx (et_gt (v 1) ev_int) (fun h => EV.to (ev_gcd T.gcd (v 0) (v 1)) (by unfold RB.part; rw [if_pos h])) (fun h => EV.to (ev_neg (ev_gcd T.gcd (v 0) (v 1))) (by unfold RB.part; rw [h]; rfl))) ?_
  exact sr_ret (ev_tup (ea2 (ev_fdiv (v 0) (v 2) (hp _)) (ev_fdiv (v 1) (v 2) (hp _)))) (qr (frac h0))

/-! is_ratio -/
abbrev s6 : Stmt := top 6
theorem sc6 : FnScope ["value"] ["value"] (defScope s6) := ⟨rfl, rfl, rfl, by decide +kernel, rfl, by decide +kernel, by decide +kernel⟩
def cIsRatio : List PyData → PyData → Prop := fun ds d => ∃ r, ds = [rat r] ∧ d = .bool true
theorem ok_is_ratio (F : Fun K "is_ratio" "is_ratio" s6 f fd) (T : Txt K mg) (D4 : DP P w K mg base 1 "is_whole" cWhole) : FO P w K mg base 2 f fd ["value"] cIsRatio := by
  refine fn_pure F sc6 (fun ds d ⟨r, h, _⟩ => by rw [h]; rfl) fun cdv A outer s H E hr ds d ⟨r, hds, hd⟩ => ?_
  subst hds hd
  have ix0 : ∀ {p p2 p3 : Pos} {j : Nat}, EV (cxOf CX0 P w K mg base ["value"] "is_ratio" (defScope s6) f cdv A outer s H E).nox [.dat (rat r)] (.Subscript (.Name "value" p) (.Constant (.int 0) j p2) p3) (.int r.num) [.dat (rat r)] true := ev_ixT (v 0) ev_int rfl
  have ix1 : ∀ {p p2 p3 : Pos} {j : Nat}, EV (cxOf CX0 P w K mg base ["value"] "is_ratio" (defScope s6) f cdv A outer s H E).nox [.dat (rat r)] (.Subscript (.Name "value" p) (.Constant (.int 1) j p2) p3) (.int r.den) [.dat (rat r)] true := ev_ixT (v 0) ev_int rfl
  refine sr_if (ba := false) (ET.to (EW.et (ew_or (et_not (et_val (isTup T.isi T.tuple (v 0)))) fun _ => ew_or (et_neI hr (ev_lenT T.len (v 0)) ev_int) fun _ => ew_or (et_not (et_val (call1 D4 hr ix0 ⟨_, rfl, rfl⟩))) fun _ => ew_or1 (et_not (et_val (call1 D4 hr ix1 ⟨_, rfl, rfl⟩))))) rfl) nofun fun _ => sr_nil ?_
  refine sr_ret (ev_and (ev_gt ix1 ev_int) fun _ => ev_one (EV.to (ev_eqI hr (ev_gcd T.gcd ix0 ix1) ev_int) (by rw [gcd_one]))) (qr ?_)
  have := r.den_pos
  simp
  omega

/-! ratio_sum, ratio_product -/
abbrev s7 : Stmt := top 7
theorem sc7 : FnScope ["one", "other"] ["one", "other"] (defScope s7) := ⟨rfl, rfl, rfl, by decide +kernel, rfl, by decide +kernel, by decide +kernel⟩
def cSum : List PyData → PyData → Prop := fun ds d => ∃ a b, ds = [rat a, rat b] ∧ Sm 4000 a ∧ Sm 4000 b ∧ d = rat (a + b)
def cProd : List PyData → PyData → Prop := fun ds d => ∃ a b, ds = [rat a, rat b] ∧ Sm 4000 a ∧ Sm 4000 b ∧ d = rat (a * b)
theorem mulW {i j : Int} (hi : i.natAbs < 2 ^ 9000) (hj : j.natAbs < 2 ^ 9000) : CMulW i j := by
  have h1 := log_lt hi (by decide)
  have h2 := log_lt hj (by decide)
  unfold CMulW
  omega
theorem den_mul {a b : Rat} (ha : Sm 4000 a) (hb : Sm 4000 b) : ((a.den : Int) * (b.den : Int)) ≠ 0 ∧ ((a.den : Int) * (b.den : Int)).natAbs < 2 ^ 9000 := by
  have h1 := a.den_pos
  have h2 := b.den_pos
  refine ⟨Int.mul_ne_zero (by omega) (by omega), ?_⟩
  rw [Int.natAbs_mul]
  have h3 : a.den * b.den < 2 ^ 4000 * 2 ^ 4000 := Nat.mul_lt_mul'' ha.2 hb.2
  rw [← Nat.pow_add] at h3
  exact Nat.lt_of_lt_of_le h3 (Nat.pow_le_pow_right (by decide) (by decide))
theorem ok_ratio_sum (F : Fun K "ratio_sum" "ratio_sum" s7 f fd) (D5 : DP P w K mg base 1 "ratio_of" cRatioOf) : FO P w K mg base 2 f fd ["one", "other"] cSum := by
  refine fn_pure F sc7 (fun ds d ⟨a, b, h, _⟩ => by rw [h]; rfl) fun cdv A outer s H E hr ds d ⟨a, b, hds, ha, hb, hd⟩ => ?_
  subst hds hd
  exact sr_ret (call2 D5 hr (ev_add (ev_mul (ev_ixT (v 0) ev_int rfl) (ev_ixT (v 1) ev_int rfl) (mulW ha.n hb.d)) (ev_mul (ev_ixT (v 1) ev_int rfl) (ev_ixT (v 0) ev_int rfl) (mulW hb.n ha.d)))
    (ev_mul (ev_ixT (v 0) ev_int rfl) (ev_ixT (v 1) ev_int rfl) (mulW ha.d hb.d)) ⟨_, _, rfl, (den_mul ha hb).1, (den_mul ha hb).2, rfl⟩) (qr (by rw [rat_add]))
abbrev s8 : Stmt := top 8
theorem sc8 : FnScope ["one", "other"] ["one", "other"] (defScope s8) := ⟨rfl, rfl, rfl, by decide +kernel, rfl, by decide +kernel, by decide +kernel⟩
theorem ok_ratio_product (F : Fun K "ratio_product" "ratio_product" s8 f fd) (D5 : DP P w K mg base 1 "ratio_of" cRatioOf) : FO P w K mg base 2 f fd ["one", "other"] cProd := by
  refine fn_pure F sc8 (fun ds d ⟨a, b, h, _⟩ => by rw [h]; rfl) fun cdv A outer s H E hr ds d ⟨a, b, hds, ha, hb, hd⟩ => ?_
  subst hds hd
  exact sr_ret (call2 D5 hr (ev_mul (ev_ixT (v 0) ev_int rfl) (ev_ixT (v 1) ev_int rfl) (mulW ha.n hb.n)) (ev_mul (ev_ixT (v 0) ev_int rfl) (ev_ixT (v 1) ev_int rfl) (mulW ha.d hb.d)) ⟨_, _, rfl, (den_mul ha hb).1, (den_mul ha hb).2, rfl⟩) (qr (by rw [rat_mul]))
end
end K46
end
section
set_option Elab.async false
set_option linter.all false
set_option maxRecDepth 100000
set_option maxHeartbeats 2000000
set_option exponentiation.threshold 20000
namespace K46
open PySem PySem.Spec L2 Pu RB
open SC (lcms wholes aw settle sumR ends lcm_fold_least lcms_pos cast)
section
variable {P : Program} {w : World} {K : PySem.W.Frag} {mg : Str → Option Value} {base : Heap} {f : Addr} {fd : FuncData}
theorem room {n : Nat} (h : n ≤ 1000000) : n ≤ sizeLine := Nat.le_trans h (by decide)

/-! whole_row -/
abbrev s10 : Stmt := top 10
abbrev n10 : List Str := ["row", "bottom", "number"]
theorem sc10 : FnScope n10 ["row"] (defScope s10) := ⟨rfl, rfl, rfl, by decide +kernel, rfl, by decide +kernel, by decide +kernel⟩
/-- fractions over one bottom, of bounded size -/
structure Over (E : Nat) (rs : List Rat) : Prop where
  pos : 0 < E
  lt : E < 2 ^ 4000
  dvd : ∀ r ∈ rs, r.den ∣ E
  num : ∀ r ∈ rs, r.num.natAbs < 2 ^ 4000
  len : rs.length ≤ 1000000
def cWholeRow : List PyData → PyData → Prop := fun ds d => ∃ D rs E, ds = [D] ∧ IsSeq D (rs.map rat) ∧ Over E rs ∧ d = .tuple [zs (wholes rs), .int (lcms rs)]
theorem lcms_le {E : Nat} {rs : List Rat} (h0 : 0 < E) (h : ∀ r ∈ rs, r.den ∣ E) : lcms rs ≤ E := Nat.le_of_dvd h0 (lcm_fold_least rs 1 E (Nat.one_dvd _) h)
theorem lcms_snoc (rs : List Rat) (r : Rat) : lcms (rs ++ [r]) = Nat.lcm (lcms rs) r.den := by unfold lcms; rw [List.foldl_append]; rfl
theorem ok_whole_row (F : Fun K "whole_row" "whole_row" s10 f fd) (T : Txt K mg) : FO P w K mg base 1 f fd ["row"] cWholeRow := by
  refine fn_pure F sc10 (fun ds d ⟨D, rs, E, h, _⟩ => by rw [h]; rfl) fun cdv A outer s H E' hr ds d ⟨D, rs, E, hds, hS, hO, hd⟩ => ?_
  subst hds hd
  have nd := sc10.nd
  refine as 1 ev_int ?_
  refine fr (.nm 2) (fun k e => e = [.dat D, .dat (.int (lcms (rs.take k))), .non]) (iv_seq (v 0) hS) (pn 2) rfl (fun k d e hd he => ?_) (fun e he => ?_)
  · subst he
    obtain ⟨r, hk, rfl⟩ := map_at hd
    have hm : r ∈ rs := List.mem_of_getElem? hk
    refine ⟨_, rfl, ?_⟩
    have b1 : (lcms (rs.take k)) < 2 ^ 4000 := Nat.lt_of_le_of_lt (lcms_le hO.pos fun r hr => hO.dvd r (List.mem_of_mem_take hr)) hO.lt
    have b2 : r.den < 2 ^ 4000 := Nat.lt_of_le_of_lt (Nat.le_of_dvd hO.pos (hO.dvd r hm)) hO.lt
    refine as 1 (ev_lcm T.lcm (v 1) (ev_ixT (v 2) ev_int rfl) (Nat.lt_of_lt_of_le (log_lt b1 (by decide)) (by decide)) (Nat.lt_of_lt_of_le (log_lt b2 (by decide)) (by decide))) (sr_drop 2 (sr_nil ?_))
    show _ = _
    rw [take_at hk, lcms_snoc]
    rfl
  · subst he
    rw [List.length_map, List.take_length]
    have b1 : (lcms rs) < 2 ^ 4000 := Nat.lt_of_le_of_lt (lcms_le hO.pos hO.dvd) hO.lt
    refine sr_ret (ev_tup (ea2 (EL.ev (LC.l (lc n10 (defScope s10) [("number", 2)] (.nm 2) rs rat (fun r => .int (r.num * ((lcms rs / r.den : Nat) : Int))) (fun r => [.dat D, .dat (.int (lcms rs)), .dat (rat r)]) (iv_seq (v 0) hS) (room hO.len) (fun _ => pn 2) fun r hm b => ?_))) (v 1))) (qr ?_)
    · have b2 : r.den < 2 ^ 4000 := Nat.lt_of_le_of_lt (Nat.le_of_dvd hO.pos (hO.dvd r hm)) hO.lt
      have e : ((lcms rs : Int)).fdiv (r.den : Int) = ((lcms rs / r.den : Nat) : Int) := by rw [Int.fdiv_eq_ediv_of_nonneg _ (by omega)]; rfl
      refine EV.to (ev_mul (ev_ixT (v 2) ev_int rfl) (ev_fdiv (v 1) (ev_ixT (v 2) ev_int rfl) ⟨den_ne r, Nat.lt_of_lt_of_le (log_lt b2 (by decide)) (by decide)⟩) ?_) (by rw [e])
      rw [e]
      refine mulW (Nat.lt_of_lt_of_le (hO.num r hm) (Nat.pow_le_pow_right (by decide) (by decide))) (Nat.lt_of_le_of_lt (Nat.div_le_self _ _) (Nat.lt_of_lt_of_le b1 (Nat.pow_le_pow_right (by decide) (by decide))))
    · unfold zs wholes
      rw [List.map_map]
      rfl
end
end K46
end
section
set_option Elab.async false
set_option linter.all false
set_option maxRecDepth 100000
set_option maxHeartbeats 2000000
set_option exponentiation.threshold 20000
namespace K46
open PySem PySem.Spec L2 Pu RB RW
open SC (lcms wholes aw settle sumR ends lcm_fold_least lcms_pos cast gcd_fold_dvd)
/-- numbers of bounded size -/
def Fit (ns : List Int) : Prop := ∀ n ∈ ns, n.natAbs < 2 ^ 4000
/-- .. for a gcd -/
def Fit9 (ns : List Int) : Prop := ∀ n ∈ ns, n.natAbs < 2 ^ 9000
theorem Fit.to9 {ns : List Int} (h : Fit ns) : Fit9 ns := fun n hn => Nat.lt_of_lt_of_le (h n hn) (Nat.pow_le_pow_right (by decide) (by decide))
def small (ns : List Int) : List Int := aw.small ns
def gcds (ns : List Int) : Nat := ns.foldl (fun g x => Nat.gcd g x.natAbs) 0
theorem gcds_snoc (ns : List Int) (n : Int) : gcds (ns ++ [n]) = Nat.gcd (gcds ns) n.natAbs := by unfold gcds; rw [List.foldl_append]; rfl
theorem gcds_le {ns : List Int} (h : Fit9 ns) : gcds ns < 2 ^ 9000 := by
  have hd := (gcd_fold_dvd ns 0).2
  by_cases z : ∃ n ∈ ns, n ≠ 0
  · obtain ⟨n, hn, n0⟩ := z
    exact Nat.lt_of_le_of_lt (Nat.le_of_dvd (by omega) (hd n hn)) (h n hn)
  · have : ∀ l : List Int, (∀ n ∈ l, n = 0) → gcds l = 0 := by
      intro l hl
      induction l with
      | nil => rfl
      | cons a l ih =>
        have := hl a (by simp)
        subst this
        exact ih fun n hn => hl n (by simp [hn])
    rw [this ns fun n hn => Classical.byContradiction fun c => z ⟨n, hn, c⟩]
    exact Nat.two_pow_pos _
theorem small_eq (ns : List Int) : small ns = if 1 < gcds ns then ns.map (fun x => x / ((gcds ns : Nat) : Int)) else ns := rfl
section
variable {P : Program} {w : World} {K : PySem.W.Frag} {mg : Str → Option Value} {base : Heap} {f : Addr} {fd : FuncData}
/-! made_small -/
abbrev s11 : Stmt := top 11
abbrev n11 : List Str := ["numbers", "part", "number"]
theorem sc11 : FnScope n11 ["numbers"] (defScope s11) := ⟨rfl, rfl, rfl, by decide +kernel, rfl, by decide +kernel, by decide +kernel⟩
def cMadeSmall : List PyData → PyData → Prop := fun ds d => ∃ ns, ds = [zs ns] ∧ Fit9 ns ∧ ns.length ≤ 1000000 ∧ d = zs (small ns)
theorem ok_made_small (F : Fun K "made_small" "made_small" s11 f fd) (T : Txt K mg) : FO P w K mg base 1 f fd ["numbers"] cMadeSmall := by
  refine fn_pure F sc11 (fun ds d ⟨ns, h, _⟩ => by rw [h]; rfl) fun cdv A outer s H E' hr ds d ⟨ns, hds, hf, hl, hd⟩ => ?_
  subst hds hd
  have nd := sc11.nd
  refine as 1 ev_int ?_
  refine fr (.nm 2) (fun k e => e = [.dat (zs ns), .dat (.int (gcds (ns.take k))), .non]) (iv_list (v 0)) (pn 2) rfl (fun k d e hd he => ?_) (fun e he => ?_)
  · subst he
    obtain ⟨n, hk, rfl⟩ := map_at hd
    refine ⟨_, rfl, as 1 (ev_gcd T.gcd (v 1) (v 2)) (sr_drop 2 (sr_nil ?_))⟩
    show _ = _
    rw [take_at hk, gcds_snoc]
    rfl
  · subst he
    rw [List.length_map, List.take_length]
    refine sr_ret (d := zs (small ns)) (ev_ifx (et_gt (v 1) ev_int) (fun h => EL.ev (ds := (small ns).map .int) (EL.to (LC.l (lc n11 (defScope s11) [("number", 2)] (.nm 2) ns .int (fun n => .int (n / ((gcds ns : Nat) : Int))) (fun n => [.dat (zs ns), .dat (.int (gcds ns)), .dat (.int n)]) (iv_list (v 0)) (room hl) (fun _ => pn 2) fun n hm b => ?_)) ?_)) fun h => EV.to (v 0) ?_) (qr rfl)
    · have h1 : (1 : Int) < (gcds ns : Int) := by simpa using h
      refine EV.to (ev_fdiv (v 2) (v 1) ⟨by omega, ?_⟩) (by rw [Int.fdiv_eq_ediv_of_nonneg _ (by omega)])
      exact log_lt (gcds_le hf) (by decide)
    · have h1 : 1 < gcds ns := by
        have : (1 : Int) < (gcds ns : Int) := by simpa using h
        omega
      rw [small_eq, if_pos h1, List.map_map]
      rfl
    · have h1 : ¬ 1 < gcds ns := by
        have : ¬ (1 : Int) < (gcds ns : Int) := by simpa using h
        omega
      rw [small_eq, if_neg h1]
end

/-! ### the mirror of led_down -/
def ledMid (found : List Int) (e : Nat × List Int) : List Int :=
  List.zipWith (fun a b => a * ((e.2.getD e.1 0).fdiv ((Nat.gcd (found.getD e.1 0).natAbs (e.2.getD e.1 0).natAbs : Nat) : Int)) - b * ((found.getD e.1 0).fdiv ((Nat.gcd (found.getD e.1 0).natAbs (e.2.getD e.1 0).natAbs : Nat) : Int))) found (e.2 ++ List.replicate (found.length - e.2.length) 0)
def ledStep (found : List Int) (e : Nat × List Int) : List Int := if found.getD e.1 0 = 0 then found else small (ledMid found e)
def led0 (B : List Int) (ns : List Int) : List Int := ns ++ List.replicate B.length 0 ++ [1]
def led (B : List Int) (E : List (Nat × List Int)) (ns : List Int) : List Int := E.foldl ledStep (led0 B ns)
/-- all sizes and places fit -/
structure LedOk (B : List Int) (E : List (Nat × List Int)) (ns : List Int) : Prop where
  len : ns.length + B.length + 1 ≤ 100000
  pl : ∀ e ∈ E, e.1 < e.2.length ∧ e.2.length ≤ ns.length + B.length + 1 ∧ Fit e.2
  fit : ∀ k, k ≤ E.length → Fit ((E.take k).foldl ledStep (led0 B ns))
  mid : ∀ k e, E[k]? = some e → ((E.take k).foldl ledStep (led0 B ns)).getD e.1 0 ≠ 0 → Fit (ledMid ((E.take k).foldl ledStep (led0 B ns)) e)
theorem small_len (l : List Int) : (small l).length = l.length := by
  rw [small_eq]
  split
  · simp
  · rfl
theorem ledStep_len (f : List Int) (e : Nat × List Int) (h : e.2.length ≤ f.length) : (ledStep f e).length = f.length := by
  unfold ledStep
  split
  · rfl
  · rw [small_len]
    unfold ledMid
    simp
    omega
theorem fold_len : ∀ (E : List (Nat × List Int)) (f : List Int), (∀ e ∈ E, e.2.length ≤ f.length) → (E.foldl ledStep f).length = f.length
  | [], f, _ => rfl
  | e :: E, f, h => by
    have h1 := ledStep_len f e (h e (by simp))
    rw [List.foldl_cons, fold_len E _ fun e' he' => by rw [h1]; exact h e' (by simp [he']), h1]
theorem led0_len (B ns : List Int) : (led0 B ns).length = ns.length + B.length + 1 := by simp [led0]; omega
theorem LedOk.take_len {B : List Int} {E : List (Nat × List Int)} {ns : List Int} (h : LedOk B E ns) (k : Nat) : ((E.take k).foldl ledStep (led0 B ns)).length = ns.length + B.length + 1 := by
  rw [fold_len _ _ fun e he => by rw [led0_len]; exact (h.pl e (List.mem_of_mem_take he)).2.1, led0_len]
theorem getD_fit {l : List Int} (h : Fit l) (i : Nat) : (l.getD i 0).natAbs < 2 ^ 4000 := by
  rw [List.getD_eq_getElem?_getD]
  cases e : l[i]? with
  | none => simp [Nat.two_pow_pos]
  | some x => simpa using h x (List.mem_of_getElem? e)
theorem atI_nat {l : List Int} {i : Nat} (h : i < l.length) : atI (l.map PyData.int) ((i : Nat) : Int) = some (.int (l.getD i 0)) := by
  unfold atI
  have e : ixN (l.map PyData.int).length ((i : Nat) : Int) = some i := by
    unfold ixN
    simp [h]
  rw [e, List.getD_eq_getElem?_getD]
  simp [h]

section
variable {P : Program} {w : World} {K : PySem.W.Frag} {mg : Str → Option Value} {base : Heap} {f : Addr} {fd : FuncData} {C : Addr}
/-! many -/
abbrev s12 (j : Nat) : Stmt := inClass (top 12) j
theorem sc12_1 : FnScope ["self"] ["self"] (defScope (s12 1)) := ⟨rfl, rfl, rfl, by decide +kernel, rfl, by decide +kernel, by decide +kernel⟩
def cMany (K : PySem.W.Frag) (C : Addr) : Own → List PyData → PyData → Own → Prop := fun Φ ds d Φ' => ∃ p dx lb le B E, Φ = basA K C p dx lb le B E ∧ ds = [] ∧ d = .int (B.length : Int) ∧ Φ' = Φ
theorem ok_many (F : Fun K "many" "RowBasis.many" (s12 1) f fd) (T : Txt K mg) (c : Cl K C) : FnOk P w K mg base CX0 1 f fd ["self"] (spO K (cMany K C)) := by
  refine fn_own F sc12_1 (fun Φ ds d Φ' ⟨p, dx, lb, le, B, E, _, h, _⟩ => by rw [h]; rfl) (fun Φ ds d Φ' ⟨p, dx, lb, le, B, E, h1, _, _, h2⟩ => by rw [h2, h1]; exact fix) fun cdv A outer s H E' hr Φ ds d Φ' ⟨p, dx, lb, le, B, E, h1, h2, h3, h4⟩ => ?_
  subst h1 h2 h3 h4
  exact sr_ret (ev_lenB (i := 0) c T.len rfl (Or.inl rfl) rfl) ⟨rfl, qr rfl⟩
/-! led_down -/
abbrev n12_2 : List Str := ["self", "numbers", "long", "found", "place", "late", "part", "one", "other", "a", "b"]
theorem sc12_2 : FnScope n12_2 ["self", "numbers"] (defScope (s12 2)) := ⟨rfl, rfl, rfl, by decide +kernel, rfl, by decide +kernel, by decide +kernel⟩
def cLed (K : PySem.W.Frag) (C : Addr) : Own → List PyData → PyData → Own → Prop := fun Φ ds d Φ' => ∃ p dx lb le B E ns, Φ = basA K C p dx lb le B E ∧ ds = [zs ns] ∧ LedOk B E ns ∧ d = .tuple [zs ((led B E ns).take ns.length), zs ((led B E ns).drop ns.length)] ∧ Φ' = Φ
theorem cut_to {l : List PyData} {n : Nat} (h : n ≤ l.length) : cutD l none (some (n : Int)) = l.take n := by
  unfold cutD
  rw [HT.sIx_nat, HT.sIx_none]
  simp [Nat.min_eq_left h]
theorem cut_from {l : List PyData} {n : Nat} (h : n ≤ l.length) : cutD l (some (n : Int)) none = l.drop n := by
  unfold cutD
  rw [HT.sIx_nat, HT.sIx_none, Nat.min_eq_left h, List.take_of_length_le (by simp)]
theorem zip_zs (a b : List Int) : List.zipWith (fun x y => PyData.tuple [x, y]) (a.map PyData.int) (b.map PyData.int) = (a.zip b).map fun p => .tuple [.int p.1, .int p.2] := by
  rw [List.zipWith_map, List.zip, List.map_zipWith]
theorem zs_len (l : List Int) : (l.map PyData.int).length = l.length := List.length_map _
theorem fdiv_le {a g : Int} (h : g ∣ a) (h0 : g ≠ 0) : (a.fdiv g).natAbs ≤ a.natAbs := by
  obtain ⟨c, rfl⟩ := h
  rw [Int.mul_fdiv_cancel_left _ h0, Int.natAbs_mul]
  exact Nat.le_mul_of_pos_left _ (by omega)
theorem up {n : Nat} (h : n < 2 ^ 4000) : n < 2 ^ 9000 := Nat.lt_of_lt_of_le h (Nat.pow_le_pow_right (by decide) (by decide))
theorem ledMid_zip (fd : List Int) (pl : Nat) (la : List Int) : ledMid fd (pl, la) = (fd.zip (la ++ List.replicate (fd.length - la.length) 0)).map fun q => q.1 * ((la.getD pl 0).fdiv ((Nat.gcd (fd.getD pl 0).natAbs (la.getD pl 0).natAbs : Nat) : Int)) - q.2 * ((fd.getD pl 0).fdiv ((Nat.gcd (fd.getD pl 0).natAbs (la.getD pl 0).natAbs : Nat) : Int)) := by
  unfold ledMid
  rw [List.zip, List.map_zipWith]
theorem ok_led_down (F : Fun K "led_down" "RowBasis.led_down" (s12 2) f fd) (T : Txt K mg) (c : Cl K C) (D11 : DP P w K mg base 1 "made_small" cMadeSmall) (Dm1 : Dm P w K mg base C 1 "many" (spO K (cMany K C))) : FnOk P w K mg base CX0 2 f fd ["self", "numbers"] (spO K (cLed K C)) := by
  refine fn_own F sc12_2 (fun Φ ds d Φ' ⟨p, dx, lb, le, B, E, ns, _, h, _⟩ => by rw [h]; rfl) (fun Φ ds d Φ' ⟨p, dx, lb, le, B, E, ns, h1, _, _, _, h2⟩ => by rw [h2, h1]; exact fix) fun cdv A outer s H E' hr Φ ds d Φ' ⟨p, dx, lb, le, B, E, ns, h1, h2, hL, h3, h4⟩ => ?_
  subst h1 h2 h3 h4
  have nd := sc12_2.nd
  refine as 2 (ev_lenL T.len (v 1)) ?_
  refine as 3 (d := zs (led0 B ns)) (EV.to (EL.ev (el_cat (EL.ev (el_cat (v 1) (EL.ev (el_rep (EL.ev (el_lst (ea1 ev_int))) (ev_meth0 (i := 0) c Dm1 hr rfl (Or.inl rfl) rfl ⟨p, dx, lb, le, B, E, rfl, rfl, rfl, rfl⟩) ?_ ?_)) ?_)) (EL.ev (el_lst (ea1 ev_int))) ?_)) ?_) ?_
  · exact Int.natCast_nonneg _
  · have := hL.len; omega
  · have := hL.len; simp; exact room (by omega)
  · have := hL.len; simp; exact room (by omega)
  · simp [zs, led0]
  refine fr (.t2 (.nm 4) (.nm 5)) (fun k e => e = [.own (basA K C p dx lb le B E), .dat (zs ns), .dat (.int (ns.length : Int)), .dat (zs ((E.take k).foldl ledStep (led0 B ns))), .non, .non, .non, .non, .non, .non, .non]) (iv_ech (i := 0) c rfl (Or.inl rfl) rfl) (pt2 (pn 4) (pn 5)) (by simp; rfl) (fun k d e hd he => ?_) (fun e he => ?_) (fun k e he j hj => ?_)
  · subst he
    obtain ⟨⟨pl, la⟩, hk, rfl⟩ := map_at hd
    have hm : (pl, la) ∈ E := List.mem_of_getElem? hk
    obtain ⟨q1, q2, q3⟩ := hL.pl _ hm
    have q1 : pl < la.length := q1
    have q2 : la.length ≤ ns.length + B.length + 1 := q2
    have q3 : Fit la := q3
    have lF := hL.take_len k
    have hfit := hL.fit k (Nat.le_of_lt (List.getElem?_eq_some_iff.mp hk).1)
    have hmid := hL.mid k _ hk
    have hnext : (E.take (k + 1)).foldl ledStep (led0 B ns) = ledStep ((E.take k).foldl ledStep (led0 B ns)) (pl, la) := by rw [take_at hk, List.foldl_append]; rfl
    rw [hnext]
    generalize hFd : (E.take k).foldl ledStep (led0 B ns) = fd at lF hfit hmid ⊢
    have hmid : fd.getD pl 0 ≠ 0 → Fit (ledMid fd (pl, la)) := hmid
    refine ⟨_, rfl, ?_⟩
    refine sr_if (et_neI hr (ev_ixL (v 3) (v 4) (atI_nat (by omega))) ev_int) (fun h => ?_) (fun h => ?_)
    · have hx : fd.getD pl 0 ≠ 0 := by simpa using h
      have xf := getD_fit hfit pl
      have yf := getD_fit q3 pl
      refine as 6 (ev_gcd T.gcd (ev_ixL (v 3) (v 4) (atI_nat (by omega))) (ev_ixL (v 5) (v 4) (atI_nat q1))) ?_
      generalize hg : ((Nat.gcd (fd.getD pl 0).natAbs (la.getD pl 0).natAbs : Nat) : Int) = g
      have gp : 0 < Nat.gcd (fd.getD pl 0).natAbs (la.getD pl 0).natAbs := Nat.gcd_pos_of_pos_left _ (by omega)
      have gl : Nat.gcd (fd.getD pl 0).natAbs (la.getD pl 0).natAbs < 2 ^ 4000 := Nat.lt_of_le_of_lt (Nat.gcd_le_left _ (by omega)) xf
      have hcd : ∀ x, CDivA x g := fun x => ⟨by omega, by rw [← hg]; exact Nat.lt_of_lt_of_le (log_lt gl (by decide)) (by decide)⟩
      refine sr_tup (t := .t2 (.nm 7) (.nm 8)) (ev_tup (ea2 (ev_fdiv (ev_ixL (v 5) (v 4) (atI_nat q1)) (v 6) (hcd _)) (ev_fdiv (ev_ixL (v 3) (v 4) (atI_nat (by omega))) (v 6) (hcd _)))) (pt2 (pn 7) (pn 8)) rfl ?_
      refine as 5 (d := zs (la ++ List.replicate (fd.length - la.length) 0)) (EV.to (EL.ev (el_cat (v 5) (EL.ev (el_rep (EL.ev (el_lst (ea1 ev_int))) (ev_sub (ev_lenL T.len (v 3)) (ev_lenL T.len (v 5))) ?_ ?_)) ?_)) ?_) ?_
      · simp; omega
      · have := hL.len; simp; omega
      · have := hL.len; simp; exact room (by omega)
      · simp [zs]
      have hsm := hmid hx
      refine as 3 (d := zs (ledStep fd (pl, la))) (call1 D11 hr (d := zs (ledMid fd (pl, la))) (EV.to (EL.ev (LC.l (lc n12_2 (defScope (s12 2)) [("a", 9), ("b", 10)] (.t2 (.nm 9) (.nm 10)) (fd.zip (la ++ List.replicate (fd.length - la.length) 0)) (fun p => .tuple [.int p.1, .int p.2]) (fun p => .int (p.1 * (la.getD pl 0).fdiv g - p.2 * (fd.getD pl 0).fdiv g))
        (fun q => [.own (basA K C p dx lb le B E), .dat (zs ns), .dat (.int (ns.length : Int)), .dat (zs fd), .dat (.int pl), .dat (zs (la ++ List.replicate (fd.length - la.length) 0)), .dat (.int g), .dat (.int ((la.getD pl 0).fdiv g)), .dat (.int ((fd.getD pl 0).fdiv g)), .dat (.int q.1), .dat (.int q.2)])
        (IV.to (iv_zipS T.zip (v 3) (v 5) (.l _) (.l _) ?_) (zip_zs _ _)) ?_ (fun _ => pt2 (pn 9) (pn 10)) fun q hq b => ?_))) ?_) ?_) ?_
      · rw [zs_len, zs_len, List.length_append, List.length_replicate]; omega
      · have := hL.len
        exact room (by rw [List.length_zip]; omega)
      · have m1 : q.1 ∈ fd := (List.of_mem_zip (show (q.1, q.2) ∈ _ from hq)).1
        have m2 : q.2 ∈ la ++ List.replicate (fd.length - la.length) 0 := (List.of_mem_zip (show (q.1, q.2) ∈ _ from hq)).2
        have f1 := hfit _ m1
        have f2 : q.2.natAbs < 2 ^ 4000 := by
          rcases List.mem_append.mp m2 with m | m
          · exact q3 _ m
          · rw [(List.mem_replicate.mp m).2]; exact Nat.two_pow_pos _
        have e1 : ((la.getD pl 0).fdiv g).natAbs < 2 ^ 4000 := Nat.lt_of_le_of_lt (fdiv_le (by rw [← hg]; exact Int.ofNat_dvd_left.mpr (Nat.gcd_dvd_right _ _)) (by omega)) yf
        have e2 : ((fd.getD pl 0).fdiv g).natAbs < 2 ^ 4000 := Nat.lt_of_le_of_lt (fdiv_le (by rw [← hg]; exact Int.ofNat_dvd_left.mpr (Nat.gcd_dvd_left _ _)) (by omega)) xf
        exact ev_sub (ev_mul (v 9) (v 7) (mulW (up f1) (up e1))) (ev_mul (v 10) (v 8) (mulW (up f2) (up e2)))
      · rw [ledMid_zip, hg]
        unfold zs
        rw [List.map_map]
        rfl
      · refine ⟨_, rfl, hsm.to9, ?_, ?_⟩
        · have := hL.len
          rw [ledMid_zip, List.length_map, List.length_zip]; omega
        · unfold ledStep
          rw [if_neg hx]
      · exact sr_drop 4 (sr_drop 5 (sr_drop 6 (sr_drop 7 (sr_drop 8 (sr_nil (sr_nil rfl))))))
    · have hx : fd.getD pl 0 = 0 := by simpa using h
      refine sr_nil (sr_drop 4 (sr_drop 5 (sr_nil ?_)))
      have e : ledStep fd (pl, la) = fd := by unfold ledStep; rw [if_pos hx]
      rw [e]
      rfl
  · subst he
    rw [List.length_map, List.take_length]
    have lF : (E.foldl ledStep (led0 B ns)).length = ns.length + B.length + 1 := by
      have := hL.take_len E.length
      rwa [List.take_length] at this
    refine sr_ret (ev_tup (ea2 (EL.ev (el_slice (v 3) eo_none (eo_some (v 2)))) (EL.ev (el_slice (v 3) (eo_some (v 2)) eo_none)))) ⟨rfl, qr ?_⟩
    have h1 : ns.length ≤ ((E.foldl ledStep (led0 B ns)).map PyData.int).length := by rw [List.length_map, lF]; omega
    show PyData.tuple [.list (cutD ((E.foldl ledStep (led0 B ns)).map PyData.int) none (some (ns.length : Int))), .list (cutD ((E.foldl ledStep (led0 B ns)).map PyData.int) (some (ns.length : Int)) none)] = _
    rw [cut_to h1, cut_from h1, ← List.map_take, ← List.map_drop]
    rfl
  · subst he
    have e0 : j = 0 := by simpa using hj
    subst e0
    rfl
end
end K46
end
section
set_option Elab.async false
set_option linter.all false
set_option maxRecDepth 100000
set_option maxHeartbeats 2000000
set_option exponentiation.threshold 20000
namespace K46
open PySem PySem.Spec L2 Pu RB RW
open SC (lcms wholes aw settle sumR ends lcm_fold_least lcms_pos cast gcd_fold_dvd)
def leftOf (B : List Int) (E : List (Nat × List Int)) (ns : List Int) : List Int := (led B E ns).take ns.length
def madeOf (B : List Int) (E : List (Nat × List Int)) (ns : List Int) : List Int := (led B E ns).drop ns.length
theorem LedOk.all_len {B : List Int} {E : List (Nat × List Int)} {ns : List Int} (h : LedOk B E ns) : (led B E ns).length = ns.length + B.length + 1 := by
  have := h.take_len E.length
  rwa [List.take_length] at this
theorem LedOk.all_fit {B : List Int} {E : List (Nat × List Int)} {ns : List Int} (h : LedOk B E ns) : Fit (led B E ns) := by
  have := h.fit E.length (Nat.le_refl _)
  rwa [List.take_length] at this
theorem LedOk.left_len {B : List Int} {E : List (Nat × List Int)} {ns : List Int} (h : LedOk B E ns) : (leftOf B E ns).length = ns.length := by
  unfold leftOf
  rw [List.length_take, h.all_len]
  omega
theorem LedOk.made_len {B : List Int} {E : List (Nat × List Int)} {ns : List Int} (h : LedOk B E ns) : (madeOf B E ns).length = B.length + 1 := by
  unfold madeOf
  rw [List.length_drop, h.all_len]
  omega
theorem wholes_len (rs : List Rat) : (wholes rs).length = rs.length := by unfold wholes; simp
theorem atI_last {l : List Int} (h : 1 ≤ l.length) : atI (l.map PyData.int) (-1) = some (.int (l.getLastD 0)) := by
  unfold atI ixN
  rw [List.length_map, if_neg (by omega), if_pos (by omega)]
  have e : ((-1 : Int) + (l.length : Int)).toNat = l.length - 1 := by omega
  simp only [Option.bind_some, e, List.getElem?_map]
  rw [List.getLastD_eq_getLast?, List.getLast?_eq_getElem?]
  have hl : l.length - 1 < l.length := by omega
  simp [hl]
theorem cut_last {l : List PyData} : cutD l none (some (-1)) = l.dropLast := by
  unfold cutD
  rw [HT.sIx_none, List.drop_zero, Nat.sub_zero]
  have : HT.sIx l.length l.length (some (-1)) = l.length - 1 := by
    unfold HT.sIx
    simp
    omega
  rw [this, List.dropLast_eq_take]
def byOf (B : List Int) (E : List (Nat × List Int)) (rs : List Rat) : Int := -((madeOf B E (wholes rs)).getLastD 0) * (lcms rs : Int)
def facs (B : List Int) (E : List (Nat × List Int)) (rs : List Rat) : List Rat := ((madeOf B E (wholes rs)).dropLast.zip B).map fun q => ((q.1 * q.2 : Int) : Rat) / ((byOf B E rs : Int) : Rat)
theorem any_zero {l : List Int} (h : ∀ x ∈ l, x = 0) : (l.any fun n => n != 0) = false := by
  rw [List.any_eq_false]
  intro x hx
  simp [h x hx]
section
variable {P : Program} {w : World} {K : PySem.W.Frag} {mg : Str → Option Value} {base : Heap} {f : Addr} {fd : FuncData} {C : Addr}
/-! factors -/
abbrev n12_3 : List Str := ["self", "row", "by", "numbers", "bottom", "left", "made", "one", "late"]
theorem sc12_3 : FnScope n12_3 ["self", "row"] (defScope (s12 3)) := ⟨rfl, rfl, rfl, by decide +kernel, rfl, by decide +kernel, by decide +kernel⟩
def cFactors (K : PySem.W.Frag) (C : Addr) : Own → List PyData → PyData → Own → Prop := fun Φ ds d Φ' => ∃ p dx lb le B E D rs M, Φ = basA K C p dx lb le B E ∧ ds = [D] ∧ IsSeq D (rs.map rat) ∧ Over M rs ∧ LedOk B E (wholes rs) ∧ (∀ x ∈ leftOf B E (wholes rs), x = 0) ∧ byOf B E rs ≠ 0 ∧ Fit B ∧ d = row (facs B E rs) ∧ Φ' = Φ
theorem ok_factors (F : Fun K "factors" "RowBasis.factors" (s12 3) f fd) (T : Txt K mg) (c : Cl K C) (D5 : DP P w K mg base 1 "ratio_of" cRatioOf) (D10 : DP P w K mg base 1 "whole_row" cWholeRow) (Dm2 : Dm P w K mg base C 2 "led_down" (spO K (cLed K C))) : FnOk P w K mg base CX0 3 f fd ["self", "row"] (spO K (cFactors K C)) := by
  refine fn_own F sc12_3 (fun Φ ds d Φ' ⟨p, dx, lb, le, B, E, D, rs, M, _, h, _⟩ => by rw [h]; rfl) (fun Φ ds d Φ' ⟨p, dx, lb, le, B, E, D, rs, M, h1, _, _, _, _, _, _, _, _, h2⟩ => by rw [h2, h1]; exact fix) fun cdv A outer s H E' hr Φ ds d Φ' ⟨p, dx, lb, le, B, E, D, rs, M, h1, h2, hS, hO, hL, h0, hby, hB, h3, h4⟩ => ?_
  subst h1 h2 h3 h4
  have nd := sc12_3.nd
  have hr1 : Room 1 _ := hr.mono (by decide)
  refine sr_tup (t := .t2 (.nm 3) (.nm 4)) (call1 D10 hr1 (v 1) ⟨D, rs, M, rfl, hS, hO, rfl⟩) (pt2 (pn 3) (pn 4)) rfl ?_
  refine sr_tup (t := .t2 (.nm 5) (.nm 6)) (ev_meth (i := 0) c Dm2 hr rfl (Or.inl rfl) rfl (ea1 (v 3)) ⟨p, dx, lb, le, B, E, wholes rs, rfl, rfl, hL, rfl, rfl⟩) (pt2 (pn 5) (pn 6)) rfl ?_
  refine sr_if (et_val (ev_any rfl T.any (v 5))) (fun h => ?_) (fun _ => sr_nil ?_)
  · have h' : ((leftOf B E (wholes rs)).any fun n => n != 0) = true := h
    rw [any_zero h0] at h'
    cases h'
  have lm := hL.made_len
  have ff := hL.all_fit
  have fm : ∀ x ∈ madeOf B E (wholes rs), x.natAbs < 2 ^ 4000 := fun x hx => ff x (List.mem_of_mem_drop hx)
  have lw : (lcms rs) < 2 ^ 4000 := Nat.lt_of_le_of_lt (lcms_le hO.pos hO.dvd) hO.lt
  have la : ((madeOf B E (wholes rs)).getLastD 0).natAbs < 2 ^ 4000 := by
    rw [List.getLastD_eq_getLast?]
    cases e : (madeOf B E (wholes rs)).getLast? with
    | none => simp [Nat.two_pow_pos]
    | some x => simpa using fm x (List.mem_of_getLast? e)
  refine as 2 (d := .int (byOf B E rs)) (ev_mul (ev_neg (ev_ixL (v 6) (ev_neg ev_int) (atI_last (by rw [lm]; omega)))) (v 4) ?_) ?_
  · refine mulW ?_ ?_
    · rw [Int.natAbs_neg]; exact up la
    · exact Nat.lt_of_lt_of_le lw (Nat.pow_le_pow_right (by decide) (by decide))
  have hbl : (byOf B E rs).natAbs < 2 ^ 9000 := by
    unfold byOf
    rw [Int.natAbs_mul, Int.natAbs_neg]
    have := Nat.mul_lt_mul'' la lw
    rw [← Nat.pow_add] at this
    exact Nat.lt_of_lt_of_le this (Nat.pow_le_pow_right (by decide) (by decide))
  refine sr_ret (ev_tupleL T.tuple (EL.ev (LC.l (lc n12_3 (defScope (s12 3)) [("one", 7), ("late", 8)] (.t2 (.nm 7) (.nm 8)) ((madeOf B E (wholes rs)).dropLast.zip B) (fun q => .tuple [.int q.1, .int q.2]) (fun q => rat (((q.1 * q.2 : Int) : Rat) / ((byOf B E rs : Int) : Rat)))
    (fun q => [.own (basA K C p dx lb le B E), .dat D, .dat (.int (byOf B E rs)), .dat (zs (wholes rs)), .dat (.int (lcms rs)), .dat (zs (leftOf B E (wholes rs))), .dat (zs (madeOf B E (wholes rs))), .dat (.int q.1), .dat (.int q.2)])
    (IV.to (iv_zipB (i := 0) c T.zip (EL.ev (el_slice (v 6) eo_none (eo_some (ev_neg ev_int)))) ?_ rfl (Or.inl rfl) rfl) ?_) ?_ (fun _ => pt2 (pn 7) (pn 8)) fun q hq b => ?_)))) ⟨rfl, qr ?_⟩
  · show (cutD ((madeOf B E (wholes rs)).map PyData.int) none (some (-1))).length = B.length
    rw [cut_last, List.length_dropLast, List.length_map, lm]
    omega
  · show List.zipWith (fun x y => PyData.tuple [x, y]) (cutD ((madeOf B E (wholes rs)).map PyData.int) none (some (-1))) (B.map .int) = _
    rw [cut_last, ← List.map_dropLast, zip_zs]
  · have := hL.len
    exact room (by rw [List.length_zip, List.length_dropLast, lm]; omega)
  · have m1 : q.1 ∈ (madeOf B E (wholes rs)).dropLast := (List.of_mem_zip (show (q.1, q.2) ∈ _ from hq)).1
    have m2 : q.2 ∈ B := (List.of_mem_zip (show (q.1, q.2) ∈ _ from hq)).2
    have f1 := fm _ (List.dropLast_subset _ m1)
    have f2 := hB _ m2
    exact call2 D5 hr1 (ev_mul (v 7) (v 8) (mulW (up f1) (up f2))) (v 2) ⟨_, _, rfl, hby, hbl, rfl⟩
  · unfold row facs
    rw [List.map_map]
    rfl
end
end K46
end
section
set_option Elab.async false
set_option linter.all false
set_option maxRecDepth 100000
set_option maxHeartbeats 2000000
set_option exponentiation.threshold 20000
namespace K46
open PySem PySem.Spec L2 Pu RB RW
open SC (lcms wholes aw settle sumR ends lcm_fold_least lcms_pos cast gcd_fold_dvd)
/-- the first place that isn't 0 -/
def First (l : List Int) (k : Nat) : Prop := k < l.length ∧ l.getD k 0 ≠ 0 ∧ ∀ j, j < k → l.getD j 0 = 0
theorem first_filter {l : List Int} {k : Nat} (h : First l k) : ((l.mapIdx fun i x => (i, x)).filter fun p => !decide (p.2 = 0))[0]? = some (k, l.getD k 0) := by
  obtain ⟨h1, h2, h3⟩ := h
  rw [← List.head?_eq_getElem?, List.head?_filter]
  have e : l.getD k 0 = l[k] := by simp [List.getD_eq_getElem?_getD, h1]
  rw [e, List.find?_eq_some_iff_getElem]
  rw [e] at h2
  refine ⟨by simpa using h2, k, by simpa using h1, by simp, fun j hj => ?_⟩
  have := h3 j hj
  have hjl : j < l.length := by omega
  rw [show l.getD j 0 = l[j] by simp [List.getD_eq_getElem?_getD, hjl]] at this
  simpa using this
theorem enum_map (l : List Int) : ((l.map PyData.int).mapIdx fun i x => PyData.tuple [.int (i : Nat), x]) = (l.mapIdx fun i x => (i, x)).map fun q => PyData.tuple [.int (q.1 : Nat), .int q.2] := by
  apply List.ext_getElem?
  intro i
  rw [List.getElem?_mapIdx, List.getElem?_map, List.getElem?_map, List.getElem?_mapIdx]
  cases l[i]? <;> rfl
section
variable {P : Program} {w : World} {K : PySem.W.Frag} {mg : Str → Option Value} {base : Heap} {f : Addr} {fd : FuncData} {C : Addr}
/-! put -/
abbrev n12_4 : List Str := ["self", "row", "place", "numbers", "bottom", "left", "made", "k", "number"]
theorem sc12_4 : FnScope n12_4 ["self", "row"] (defScope (s12 4)) := ⟨rfl, rfl, rfl, by decide +kernel, rfl, by decide +kernel, by decide +kernel⟩
def cPut (K : PySem.W.Frag) (C : Addr) : Own → List PyData → PyData → Own → Prop := fun Φ ds d Φ' => ∃ p dx lb le B E D rs M, Φ = basA K C p dx lb le B E ∧ ds = [D] ∧ IsSeq D (rs.map rat) ∧ Over M rs ∧ LedOk B E (wholes rs) ∧ E.length ≤ 100000 ∧
  (((∀ x ∈ leftOf B E (wholes rs), x = 0) ∧ d = .bool false ∧ Φ' = Φ) ∨ ∃ k, First (leftOf B E (wholes rs)) k ∧ d = .bool true ∧ Φ' = basA K C p dx lb le (B ++ [(lcms rs : Int)]) (E ++ [(k, led B E (wholes rs))]))
theorem ok_put (F : Fun K "put" "RowBasis.put" (s12 4) f fd) (T : Txt K mg) (c : Cl K C) (D10 : DP P w K mg base 1 "whole_row" cWholeRow) (Dm2 : Dm P w K mg base C 2 "led_down" (spO K (cLed K C))) : FnOk P w K mg base CX0 3 f fd ["self", "row"] (spO K (cPut K C)) := by
  refine fn_own F sc12_4 (fun Φ ds d Φ' ⟨p, dx, lb, le, B, E, D, rs, M, _, h, _⟩ => by rw [h]; rfl) (fun Φ ds d Φ' ⟨p, dx, lb, le, B, E, D, rs, M, h1, _, _, _, _, _, h2⟩ => by
    rcases h2 with ⟨_, _, h2⟩ | ⟨k, _, _, h2⟩
    · rw [h2, h1]; exact fix
    · rw [h2, h1]; exact fix) fun cdv A outer s H E' hr Φ ds d Φ' ⟨p, dx, lb, le, B, E, D, rs, M, h1, h2, hS, hO, hL, hE, h3⟩ => ?_
  subst h1 h2
  have nd := sc12_4.nd
  have hr1 : Room 1 _ := hr.mono (by decide)
  refine sr_tup (t := .t2 (.nm 3) (.nm 4)) (call1 D10 hr1 (v 1) ⟨D, rs, M, rfl, hS, hO, rfl⟩) (pt2 (pn 3) (pn 4)) rfl ?_
  refine sr_tup (t := .t2 (.nm 5) (.nm 6)) (ev_meth (i := 0) c Dm2 hr rfl (Or.inl rfl) rfl (ea1 (v 3)) ⟨p, dx, lb, le, B, E, wholes rs, rfl, rfl, hL, rfl, rfl⟩) (pt2 (pn 5) (pn 6)) rfl ?_
  have ll := hL.left_len
  have la := hL.all_len
  rcases h3 with ⟨h0, rfl, rfl⟩ | ⟨k, hk, rfl, rfl⟩
  · refine sr_if (et_not (et_val (ev_any rfl T.any (v 5)))) (fun _ => sr_ret ev_bl ⟨rfl, qr rfl⟩) (fun h => ?_)
    have h' : (!(leftOf B E (wholes rs)).any fun n => n != 0) = false := h
    rw [any_zero h0] at h'
    cases h'
  · refine sr_if (et_not (et_val (ev_any rfl T.any (v 5)))) (fun h => ?_) (fun _ => sr_nil ?_)
    · have h' : (!(leftOf B E (wholes rs)).any fun n => n != 0) = true := h
      have : (leftOf B E (wholes rs)).any (fun n => n != 0) = true := by
        rw [List.any_eq_true]
        refine ⟨(leftOf B E (wholes rs)).getD k 0, ?_, by simpa using hk.2.1⟩
        rw [List.getD_eq_getElem?_getD, List.getElem?_eq_getElem hk.1]
        exact List.getElem_mem hk.1
      rw [this] at h'
      cases h'
    refine as 2 (d := .int (k : Nat)) (ev_ixL (EL.ev (LC.lI (lcIf n12_4 (defScope (s12 4)) [("k", 7), ("number", 8)] (.t2 (.nm 7) (.nm 8)) ((leftOf B E (wholes rs)).mapIdx fun i x => (i, x)) (fun q => .tuple [.int (q.1 : Nat), .int q.2]) (fun q => .int (q.1 : Nat)) (fun q => !decide (q.2 = 0))
      (fun q => [.own (basA K C p dx lb le B E), .dat D, .non, .dat (zs (wholes rs)), .dat (.int (lcms rs)), .dat (zs (leftOf B E (wholes rs))), .dat (zs (madeOf B E (wholes rs))), .dat (.int (q.1 : Nat)), .dat (.int q.2)])
      (IV.to (iv_enum T.enum (v 5) (.l _)) ?_) ?_ (fun _ => pt2 (pn 7) (pn 8)) (fun q hq b => et_neI hr (v 8) ev_int) fun q hq _ b => v 7))) ev_int ?_) ?_
    · show (((leftOf B E (wholes rs)).map PyData.int).mapIdx fun i x => PyData.tuple [.int (i : Nat), x]) = _
      exact enum_map _
    · have := hL.len
      exact room (by rw [List.length_mapIdx, ll]; omega)
    · have e := first_filter hk
      have e2 := congrArg (Option.map fun q : Nat × Int => PyData.int (q.1 : Nat)) e
      rw [← List.getElem?_map] at e2
      have hlen : 0 < (((leftOf B E (wholes rs)).mapIdx fun i x => (i, x)).filter fun p => !decide (p.2 = 0)).length := (List.getElem?_eq_some_iff.mp e).1
      unfold atI ixN
      rw [if_pos (by omega), if_pos (by rw [List.length_map]; omega)]
      exact e2
    refine sr_appE (i := 0) (k := k) (ns := led B E (wholes rs)) c rfl (Or.inl rfl) rfl (EV.to (ev_tup (ea2 (v 2) (EL.ev (el_cat (v 5) (v 6) ?_)))) ?_) (Nat.lt_of_le_of_lt hE (by decide)) ?_
    · have lm := hL.made_len
      have hl := hL.len
      show ((leftOf B E (wholes rs)).map PyData.int).length + ((madeOf B E (wholes rs)).map PyData.int).length ≤ sizeLine
      exact room (by rw [List.length_map, List.length_map, ll, lm]; omega)
    · show PyData.tuple [.int (k : Nat), .list ((leftOf B E (wholes rs)).map PyData.int ++ (madeOf B E (wholes rs)).map PyData.int)] = ech (k, led B E (wholes rs))
      rw [← List.map_append]
      unfold leftOf madeOf
      rw [List.take_append_drop]
      rfl
    refine sr_appB (i := 0) c rfl (Or.inl rfl) rfl (v 4) ?_ ?_
    · have := hL.len
      exact Nat.lt_of_le_of_lt (show B.length ≤ 100000 by omega) (by decide)
    exact sr_ret ev_bl ⟨rfl, qr rfl⟩
/-! __init__ -/
theorem sc12_0 : FnScope ["self"] ["self"] (defScope (s12 0)) := ⟨rfl, rfl, rfl, by decide +kernel, rfl, by decide +kernel, by decide +kernel⟩
theorem ok_init (F : Fun K "__init__" "RowBasis.__init__" (s12 0) f fd) (c : Cl K C) : FnOk P w K mg base CX0 1 f fd ["self"] (spInit C) := by
  refine F.ok sc12_0 (fun vs H Q E ⟨p, dx, h, _⟩ => by rw [h]; rfl) fun cdv A outer s H vs Q E hr ⟨p, dx, hv, hp, q⟩ => ?_
  subst hv
  refine ⟨_, pss_cons (ps_fld (pv 0) (pe_lst pa_nil) rfl) (pss_one (ps_fld (pv 0) (pe_lst pa_nil) rfl)), ?_⟩
  refine ⟨Nat.zero_le _, fun lb hb => ?_⟩
  have npb : p ≠ lb := ne_of_none hp hb
  refine ⟨_, rfl, p, C, dx, [], rfl, (by rw [upd_ne npb]; exact hp), c.cl, c.nB, (by decide), ?_⟩
  refine ⟨Nat.zero_le _, fun le he => ?_⟩
  have npe : p ≠ le := fun z => by rw [← z, upd_same] at he; cases he
  have nbe : lb ≠ le := fun z => by rw [← z, upd_ne npb.symm, upd_same] at he; cases he
  have he0 : H le = none := by rwa [upd_ne npe.symm, upd_ne nbe.symm] at he
  refine ⟨_, rfl, p, C, dx, _, rfl, (by rw [upd_ne npe, upd_same]), c.cl, c.nE, (by show 1 < 1000; decide), ?_⟩
  refine q _ lb le (fun a o h n => ?_) upd_same hb he0 nbe ?_ ?_
  · rw [upd_ne n, upd_ne (ne_of_none h he0), upd_ne n, upd_ne (ne_of_none h hb)]
    exact h
  · rw [upd_ne npb.symm, upd_ne nbe, upd_ne npb.symm, upd_same]
  · rw [upd_ne npe.symm, upd_same]
end
end K46
end
section
set_option Elab.async false
set_option linter.all false
set_option maxRecDepth 100000
set_option maxHeartbeats 2000000
set_option exponentiation.threshold 20000
namespace K46
open PySem PySem.Spec L2 Pu RB RW
open SC (lcms wholes aw settle sumR ends lcm_fold_least lcms_pos cast gcd_fold_dvd)
def tab (M : List (List Rat)) : PyData := .tuple (M.map row)
def unit (n i : Nat) : List Rat := (List.range n).map fun k => if k = i then 1 else 0
def units (n : Nat) : List (List Rat) := (List.range n).map (unit n)
theorem plain_rats : ∀ rs : List Rat, PyData.plainAll (rs.map rat) = true
  | [] => rfl
  | r :: rs => by
    have := plain_rats rs
    simp [PyData.plainAll, rat, PyData.plain] at this ⊢
    exact this
theorem plain_row (rs : List Rat) : (row rs).plain = true := plain_rats rs
theorem plain_rows : ∀ M : List (List Rat), PyData.plainAll (M.map row) = true
  | [] => rfl
  | r :: rs => by
    have := plain_rows rs
    have h := plain_rats r
    simp [PyData.plainAll, row, PyData.plain] at this h ⊢
    exact ⟨h, this⟩
section
variable {P : Program} {w : World} {K : PySem.W.Frag} {mg : Str → Option Value} {base : Heap} {f : Addr} {fd : FuncData} {C : Addr}
/-! unit_rows -/
abbrev s14 : Stmt := top 14
abbrev n14 : List Str := ["many", "place", "k"]
theorem sc14 : FnScope n14 ["many"] (defScope s14) := ⟨rfl, rfl, rfl, by decide +kernel, rfl, by decide +kernel, by decide +kernel⟩
def o14 : Scope := match defBody s14 with
  | [.Return (some (.Call _ [.ListComp _ _ s _] _ _)) _] => s
  | _ => defScope s14
def cUnit : List PyData → PyData → Prop := fun ds d => ∃ n : Nat, ds = [.int (n : Int)] ∧ n ≤ 1000 ∧ d = tab (units n)
theorem rng62 {n : Nat} (h : n ≤ 100000000) : -(2 ^ 62) ≤ (n : Int) ∧ (n : Int) < 2 ^ 62 := by omega
theorem ok_unit_rows (F : Fun K "unit_rows" "unit_rows" s14 f fd) (T : Txt K mg) : FO P w K mg base 1 f fd ["many"] cUnit := by
  refine fn_pure F sc14 (fun ds d ⟨n, h, _⟩ => by rw [h]; rfl) fun cdv A outer s H E' hr ds d ⟨n, hds, hn, hd⟩ => ?_
  subst hds hd
  have nd := sc14.nd
  have hb := rng62 (n := n) (by omega)
  refine sr_ret (ev_tupleL T.tuple (EL.ev (LC.l (lc n14 (defScope s14) [("place", 1)] (.nm 1) (List.range n) (fun i => .int (i : Nat)) (fun i => row (unit n i)) (fun i => [.dat (.int (n : Int)), .dat (.int (i : Nat)), .non])
    (IV.to (iv_range1 T.range (v 0) hb.1 hb.2) (by rw [Int.toNat_natCast])) (room (by simp; omega)) (fun _ => pn 1) fun i hi b => ?_)))) (qr (by unfold tab units; rw [List.map_map]; rfl))
  refine EV.to (ev_tupleL T.tuple (EL.ev (LC.l (lc n14 (relS o14 (defScope s14)) [("k", 2)] (.nm 2) (List.range n) (fun i => .int (i : Nat)) (fun k => rat (if k = i then 1 else 0)) (fun k => [.dat (.int (n : Int)), .dat (.int (i : Nat)), .dat (.int (k : Nat))])
    (IV.to (iv_range1 T.range (v 0) hb.1 hb.2) (by rw [Int.toNat_natCast])) (room (by simp; omega)) (fun _ => pn 2) fun k hk b2 => ?_)))) (by unfold row unit; rw [List.map_map]; rfl)
  refine ev_ifx (et_eqI hr (v 2) (v 1)) (fun h => EV.to (ev_globE T.one) ?_) (fun h => EV.to (ev_globE T.none) ?_)
  · have h0 : (k : Int) = (i : Int) := by simpa using h
    have : k = i := by omega
    rw [if_pos this]
  · have h0 : ¬ (k : Int) = (i : Int) := by simpa using h
    have : ¬ k = i := by omega
    rw [if_neg this]

/-! row_led -/
abbrev s15 : Stmt := top 15
abbrev n15 : List Str := ["row", "table", "whole", "found", "k", "factors", "bottom", "late", "one", "by"]
theorem sc15 : FnScope n15 ["row", "table"] (defScope s15) := ⟨rfl, rfl, rfl, by decide +kernel, rfl, by decide +kernel, by decide +kernel⟩
/-- row by table: its numbers -/
def rowMul (rs : List Rat) (M : List (List Rat)) (m : Nat) : List Rat := (List.range m).map fun k => sumR (List.zipWith (fun r t => r * t.getD k 0) rs M)
def quot (rs : List Rat) (M : List (List Rat)) : List Rat := List.zipWith (fun r t => r / (((lcms t : Nat) : Int) : Rat)) rs M
structure RowOk (rs : List Rat) (M : List (List Rat)) (m : Nat) : Prop where
  len : rs.length = M.length
  pos : 0 < rs.length
  small : rs.length ≤ 1000 ∧ m ≤ 1000
  row : ∀ t ∈ M, t.length = m ∧ ∃ E, Over E t
  sm : ∀ r ∈ rs, Sm 4000 r
  qu : ∃ E, Over E (quot rs M)
def cRowLed : List PyData → PyData → Prop := fun ds d => ∃ rs M m, ds = [row rs, tab M] ∧ RowOk rs M m ∧ d = row (rowMul rs M m)
def wr (t : List Rat) : PyData := .tuple [zs (wholes t), .int (lcms t)]
theorem wholes_lt {E : Nat} {t : List Rat} (h : Over E t) : ∀ x ∈ wholes t, x.natAbs < 2 ^ 9000 := by
  intro x hx
  unfold wholes at hx
  obtain ⟨r, hr, rfl⟩ := List.mem_map.mp hx
  rw [Int.natAbs_mul]
  have h1 := h.num r hr
  have h2 : (lcms t / r.den) < 2 ^ 4000 := Nat.lt_of_le_of_lt (Nat.div_le_self _ _) (Nat.lt_of_le_of_lt (lcms_le h.pos h.dvd) h.lt)
  have h3 := Nat.mul_lt_mul'' h1 h2
  rw [← Nat.pow_add] at h3
  exact Nat.lt_of_lt_of_le h3 (Nat.pow_le_pow_right (by decide) (by decide))
theorem getD_lt {l : List Int} (h : ∀ x ∈ l, x.natAbs < 2 ^ 9000) (i : Nat) : (l.getD i 0).natAbs < 2 ^ 9000 := by
  rw [List.getD_eq_getElem?_getD]
  cases e : l[i]? with
  | none => simp [Nat.two_pow_pos]
  | some x => simpa using h x (List.mem_of_getElem? e)
theorem zip_wr (a : List Int) (M : List (List Rat)) : List.zipWith (fun x y => PyData.tuple [x, y]) (a.map PyData.int) (M.map wr) = (a.zip M).map fun p => .tuple [.int p.1, wr p.2] := by
  rw [List.zipWith_map, List.zip, List.map_zipWith]
theorem zip_rw (a : List Rat) (M : List (List Rat)) : List.zipWith (fun x y => PyData.tuple [x, y]) (a.map rat) (M.map wr) = (a.zip M).map fun p => .tuple [rat p.1, wr p.2] := by
  rw [List.zipWith_map, List.zip, List.map_zipWith]
/-- the sum of one column -/
def colInt (rs : List Rat) (M : List (List Rat)) (k : Nat) : List Int := ((wholes (quot rs M)).zip M).map fun p => p.1 * (wholes p.2).getD k 0
theorem wholes_get (t : List Rat) (k : Nat) : (((wholes t).getD k 0 : Int) : Rat) = (((lcms t : Nat) : Int) : Rat) * t.getD k 0 := by
  have h := SC.cast_wholes t
  have e := congrArg (fun l : List Rat => l.getD k 0) h
  simp only [List.getD_eq_getElem?_getD] at e ⊢
  unfold SC.cast at e
  rw [List.getElem?_map, List.getElem?_map] at e
  cases h1 : t[k]? with
  | none =>
    have : (wholes t)[k]? = none := by
      rw [List.getElem?_eq_none_iff] at h1 ⊢
      rw [wholes_len]; exact h1
    rw [this]
    simp
  | some r =>
    rw [h1] at e
    have : ∃ x, (wholes t)[k]? = some x := by
      have hl := (List.getElem?_eq_some_iff.mp h1).1
      exact ⟨(wholes t)[k]'(by rw [wholes_len]; exact hl), List.getElem?_eq_getElem (by rw [wholes_len]; exact hl)⟩
    obtain ⟨x, hx⟩ := this
    rw [hx] at e ⊢
    simpa using e
theorem col_sum_aux (L : Nat) (k : Nat) : ∀ (rs : List Rat) (M : List (List Rat)), (∀ q ∈ quot rs M, q.den ∣ L) →
    ((((((quot rs M).map fun q => q.num * ((L / q.den : Nat) : Int)).zip M).map fun p => p.1 * (wholes p.2).getD k 0).sum : Int) : Rat) = ((L : Int) : Rat) * sumR (List.zipWith (fun r t => r * t.getD k 0) rs M)
  | [], M, _ => by simp [quot, sumR]
  | r :: rs, [], _ => by simp [quot, sumR]
  | r :: rs, t :: M, h => by
    have ih := col_sum_aux L k rs M fun q hq => h q (by unfold quot at hq ⊢; rw [List.zipWith_cons_cons]; exact List.mem_cons_of_mem _ hq)
    have hd := h (r / (((lcms t : Nat) : Int) : Rat)) (by unfold quot; rw [List.zipWith_cons_cons]; exact List.mem_cons_self)
    have e : quot (r :: rs) (t :: M) = (r / (((lcms t : Nat) : Int) : Rat)) :: quot rs M := rfl
    rw [e, List.map_cons, List.zip_cons_cons, List.map_cons, List.sum_cons, List.zipWith_cons_cons]
    have c := SC.whole_cast hd
    have g := wholes_get t k
    have n1 : (((lcms t : Nat) : Int) : Rat) ≠ 0 := SC.lcms_ne t
    have s1 : sumR ((r * t.getD k 0) :: List.zipWith (fun r t => r * t.getD k 0) rs M) = r * t.getD k 0 + sumR (List.zipWith (fun r t => r * t.getD k 0) rs M) := rfl
    rw [s1]
    have e1 : ∀ x y : Int, ((x + y : Int) : Rat) = (x : Rat) + (y : Rat) := fun x y => by push_cast; rfl
    have e2 : ∀ x y : Int, ((x * y : Int) : Rat) = (x : Rat) * (y : Rat) := fun x y => by push_cast; rfl
    rw [e1, ih, e2, c, g]
    grind
theorem col_sum {rs : List Rat} {M : List (List Rat)} (h : rs.length = M.length) (k : Nat) : (((colInt rs M k).sum : Int) : Rat) / (((lcms (quot rs M) : Nat) : Int) : Rat) = sumR (List.zipWith (fun r t => r * t.getD k 0) rs M) := by
  have e := col_sum_aux (lcms (quot rs M)) k rs M fun q hq => SC.den_dvd_lcms hq
  have n1 : (((lcms (quot rs M) : Nat) : Int) : Rat) ≠ 0 := SC.lcms_ne _
  have e0 : colInt rs M k = ((((quot rs M).map fun q => q.num * ((lcms (quot rs M) / q.den : Nat) : Int)).zip M).map fun p => p.1 * (wholes p.2).getD k 0) := rfl
  rw [e0, e]
  grind
theorem upN {n : Nat} (h : n < 2 ^ 4000) : ((n : Int)).natAbs < 2 ^ 9000 := up h
theorem atI_0 {α : Type} {a : α} {l : List α} : atI (a :: l) 0 = some a := by
  unfold atI ixN
  rw [if_pos (by omega), if_pos (by simp)]
  rfl
theorem quot_zip (rs : List Rat) (M : List (List Rat)) : quot rs M = (rs.zip M).map fun p => ((p.1.num : Int) : Rat) / (((p.1.den : Int) * (lcms p.2 : Int) : Int) : Rat) := by
  unfold quot
  rw [List.zip, List.map_zipWith]
  congr 1
  funext r t
  have h := num_den r
  have e : (((r.den : Int) * (lcms t : Int) : Int) : Rat) = ((r.den : Int) : Rat) * (((lcms t : Nat) : Int) : Rat) := by push_cast; rfl
  have n1 : (((lcms t : Nat) : Int) : Rat) ≠ 0 := SC.lcms_ne t
  have n2 : ((r.den : Int) : Rat) ≠ 0 := by exact_mod_cast den_ne r
  rw [e]
  grind
theorem quot_len {rs : List Rat} {M : List (List Rat)} (h : rs.length = M.length) : (quot rs M).length = rs.length := by
  unfold quot
  rw [List.length_zipWith, h, Nat.min_self]
theorem ok_row_led (F : Fun K "row_led" "row_led" s15 f fd) (T : Txt K mg) (D5 : DP P w K mg base 1 "ratio_of" cRatioOf) (D10 : DP P w K mg base 1 "whole_row" cWholeRow) : FO P w K mg base 2 f fd ["row", "table"] cRowLed := by
  refine fn_pure F sc15 (fun ds d ⟨rs, M, m, h, _⟩ => by rw [h]; rfl) fun cdv A outer s H E' hr ds d ⟨rs, M, m, hds, hO, hd⟩ => ?_
  subst hds hd
  have nd := sc15.nd
  obtain ⟨r0, rs0, hrs⟩ : ∃ r0 rs0, rs = r0 :: rs0 := by
    cases rs with
    | nil => exact absurd hO.pos (by simp)
    | cons a b => exact ⟨a, b, rfl⟩
  refine sr_if (et_eqP hr (v 0) (ev_tup ea_nil) (plain_row rs) rfl (.inr (by decide))) (fun h => ?_) (fun _ => sr_nil ?_)
  · rw [hrs] at h
    cases h
  -- whole = [..]
  refine sr_lc (i := 2) (lc n15 (defScope s15) [("late", 7)] (.nm 7) M row wr (fun t => [.dat (row rs), .dat (tab M), .non, .non, .non, .non, .non, .dat (row t), .non, .non]) (iv_tup (v 1)) (room (by rw [← hO.len]; have := hO.small.1; omega)) (fun _ => pn 7) fun t ht b => ?_) rfl nd rfl rfl rfl (sw_true rfl rfl rfl (by decide +kernel)) fun l => ?_
  · obtain ⟨_, E, hE⟩ := hO.row t ht
    exact call1 D10 hr (v 7) ⟨row t, t, E, rfl, .t _, hE, rfl⟩
  refine sr_freeze 2 rfl ?_
  obtain ⟨EQ, hEQ⟩ := hO.qu
  refine sr_tup (t := .t2 (.nm 5) (.nm 6)) (d := .tuple [zs (wholes (quot rs M)), .int (lcms (quot rs M))]) (call1 D10 hr (d := .list ((quot rs M).map rat)) (EV.to (EL.ev (LC.l (lc n15 (defScope s15) [("one", 8), ("late", 7)] (.t2 (.nm 8) (.nm 7)) (rs.zip M) (fun p => .tuple [rat p.1, wr p.2]) (fun p => rat (((p.1.num : Int) : Rat) / (((p.1.den : Int) * (lcms p.2 : Int) : Int) : Rat)))
    (fun p => [.dat (row rs), .dat (tab M), .dat (.list (M.map wr)), .non, .non, .non, .non, .dat (wr p.2), .dat (rat p.1), .non]) (IV.to (iv_zipS T.zip (v 0) (v 2) (.t _) (.l _) ?_) (zip_rw rs M)) ?_ (fun _ => pt2 (pn 8) (pn 7)) fun p hp b => ?_))) ?_) ⟨_, quot rs M, EQ, rfl, .l _, hEQ, rfl⟩) (pt2 (pn 5) (pn 6)) rfl ?_
  · rw [List.length_map, List.length_map]; exact hO.len
  · exact room (by rw [List.length_zip]; have := hO.small.1; omega)
  · have m1 : p.1 ∈ rs := (List.of_mem_zip (show (p.1, p.2) ∈ _ from hp)).1
    have m2 : p.2 ∈ M := (List.of_mem_zip (show (p.1, p.2) ∈ _ from hp)).2
    obtain ⟨_, E, hE⟩ := hO.row _ m2
    have sm := hO.sm _ m1
    have lw : (lcms p.2) < 2 ^ 4000 := Nat.lt_of_le_of_lt (lcms_le hE.pos hE.dvd) hE.lt
    have lp := lcms_pos p.2
    have dp := p.1.den_pos
    refine call2 D5 hr (ev_ixT (v 8) ev_int rfl) (ev_mul (ev_ixT (v 8) ev_int rfl) (ev_ixT (v 7) ev_int rfl) (mulW sm.d (upN lw))) ⟨_, _, rfl, Int.mul_ne_zero (by omega) (by omega), ?_, rfl⟩
    rw [Int.natAbs_mul]
    have h3 := Nat.mul_lt_mul'' sm.2 lw
    rw [← Nat.pow_add] at h3
    exact Nat.lt_of_lt_of_le h3 (Nat.pow_le_pow_right (by decide) (by decide))
  · show PyData.list _ = PyData.list _
    rw [quot_zip, List.map_map]
    rfl
  refine asL 3 (el_lst ea_nil) fun l2 => ?_
  obtain ⟨t0, M0, hM⟩ : ∃ t0 M0, M = t0 :: M0 := by
    cases M with
    | nil => have := hO.len; rw [hrs] at this; simp at this
    | cons a b => exact ⟨a, b, rfl⟩
  have ht0 : t0.length = m := (hO.row t0 (by rw [hM]; simp)).1
  have hm62 := rng62 (n := m) (by have := hO.small.2; omega)
  refine fr (.nm 4) (fun k e => e = [.dat (row rs), .dat (tab M), .dat (.list (M.map wr)), .own (lstA K l2 ((rowMul rs M k).map rat)), .non, .dat (zs (wholes (quot rs M))), .dat (.int (lcms (quot rs M))), .non, .non, .non])
    (its := (List.range m).map fun k => .int (k : Nat)) (IV.to (iv_range1 (j := (m : Int)) T.range (EV.to (ev_lenT T.len (ev_ixT (d := row t0) (v 1) ev_int (by rw [hM]; exact atI_0))) (by rw [List.length_map, ht0])) hm62.1 hm62.2) (by rw [Int.toNat_natCast])) (pn 4) rfl (fun k d e hd he => ?_) (fun e he => ?_)
  · subst he
    obtain ⟨k', hk, rfl⟩ := map_at hd
    have hkm : k < m := by
      have := (List.getElem?_eq_some_iff.mp hk).1
      simpa using this
    have : k' = k := by
      rw [List.getElem?_range hkm] at hk
      exact (Option.some.inj hk).symm
    subst this
    refine ⟨_, rfl, ?_⟩
    have lq : (lcms (quot rs M)) < 2 ^ 4000 := Nat.lt_of_le_of_lt (lcms_le hEQ.pos hEQ.dvd) hEQ.lt
    refine ap 3 (call2 D5 hr (ev_sumL (ns := colInt rs M k') rfl T.sum (EV.to (EL.ev (LC.l (lc n15 (defScope s15) [("by", 9), ("late", 7)] (.t2 (.nm 9) (.nm 7)) ((wholes (quot rs M)).zip M) (fun p => .tuple [.int p.1, wr p.2]) (fun p => .int (p.1 * (wholes p.2).getD k' 0))
      (fun p => [.dat (row rs), .dat (tab M), .dat (.list (M.map wr)), .own (lstA K l2 ((rowMul rs M k').map rat)), .dat (.int (k' : Nat)), .dat (zs (wholes (quot rs M))), .dat (.int (lcms (quot rs M))), .dat (wr p.2), .non, .dat (.int p.1)])
      (IV.to (iv_zipS T.zip (v 5) (v 2) (.l _) (.l _) ?_) (zip_wr _ M)) ?_ (fun _ => pt2 (pn 9) (pn 7)) fun p hp b => ?_))) ?_)) (v 6) ⟨_, _, rfl, ?_, upN lq, rfl⟩) ?_ ?_
    · rw [List.length_map, List.length_map, wholes_len, quot_len hO.len]; exact hO.len
    · exact room (by rw [List.length_zip, wholes_len, quot_len hO.len]; have := hO.small.1; omega)
    · have m1 : p.1 ∈ wholes (quot rs M) := (List.of_mem_zip (show (p.1, p.2) ∈ _ from hp)).1
      have m2 : p.2 ∈ M := (List.of_mem_zip (show (p.1, p.2) ∈ _ from hp)).2
      obtain ⟨hl, E, hE⟩ := hO.row _ m2
      exact ev_mul (v 9) (ev_ixL (ev_ixT (v 7) ev_int rfl) (v 4) (atI_nat (by rw [wholes_len, hl]; exact hkm))) (mulW (wholes_lt hEQ _ m1) (getD_lt (wholes_lt hE) _))
    · unfold colInt
      rw [List.map_map]
      rfl
    · have := lcms_pos (quot rs M)
      omega
    · rw [List.length_map]
      exact Nat.lt_of_le_of_lt (show (rowMul rs M k').length ≤ 1000 by unfold rowMul; rw [List.length_map, List.length_range]; have := hO.small.2; omega) (by decide)
    · refine sr_drop 4 (sr_nil ?_)
      show _ = _
      rw [col_sum hO.len]
      unfold rowMul
      rw [List.range_succ, List.map_append, List.map_append]
      rfl
  · subst he
    rw [List.length_map, List.length_range]
    exact sr_freeze 3 rfl (sr_ret (ev_tupleL T.tuple (v 3)) (qr rfl))
end
end K46
end
section
set_option Elab.async false
set_option linter.all false
set_option maxRecDepth 100000
set_option maxHeartbeats 2000000
set_option exponentiation.threshold 20000
namespace K46
open PySem PySem.Spec L2 Pu RB RW
open SC (lcms wholes aw settle sumR ends lcm_fold_least lcms_pos cast gcd_fold_dvd)
def trans (M : List (List Rat)) (m : Nat) : List (List Rat) := (List.range m).map fun k => M.map fun r => r.getD k 0
theorem plain_tab (M : List (List Rat)) : (tab M).plain = true := plain_rows M
theorem atI_at {α β : Type} {l : List α} {g : α → β} {k : Nat} {x : α} (h : l[k]? = some x) : atI (l.map g) ((k : Nat) : Int) = some (g x) := by
  have hl := (List.getElem?_eq_some_iff.mp h).1
  unfold atI ixN
  rw [if_pos (by omega), if_pos (by simp; omega)]
  simp [h]
theorem getD_some {r : List Rat} {k : Nat} (h : k < r.length) : r[k]? = some (r.getD k 0) := by
  rw [List.getD_eq_getElem?_getD, List.getElem?_eq_getElem h]
  rfl
section
variable {P : Program} {w : World} {K : PySem.W.Frag} {mg : Str → Option Value} {base : Heap} {f : Addr} {fd : FuncData} {C : Addr}
/-! across -/
abbrev s16 : Stmt := top 16
abbrev n16 : List Str := ["table", "k", "row"]
theorem sc16 : FnScope n16 ["table"] (defScope s16) := ⟨rfl, rfl, rfl, by decide +kernel, rfl, by decide +kernel, by decide +kernel⟩
def o16 : Scope := match defBody s16 with
  | [.Return (some (.IfExp _ (.Call _ [.ListComp _ _ s _] _ _) _ _)) _] => s
  | _ => defScope s16
def cAcross : List PyData → PyData → Prop := fun ds d => ∃ M m, ds = [tab M] ∧ 0 < M.length ∧ M.length ≤ 1000 ∧ m ≤ 1000 ∧ (∀ t ∈ M, t.length = m) ∧ d = tab (trans M m)
theorem ok_across (F : Fun K "across" "across" s16 f fd) (T : Txt K mg) : FO P w K mg base 1 f fd ["table"] cAcross := by
  refine fn_pure F sc16 (fun ds d ⟨M, m, h, _⟩ => by rw [h]; rfl) fun cdv A outer s H E' hr ds d ⟨M, m, hds, hp, hs1, hs2, hM, hd⟩ => ?_
  subst hds hd
  have nd := sc16.nd
  obtain ⟨t0, M0, hM0⟩ : ∃ t0 M0, M = t0 :: M0 := by
    cases M with
    | nil => simp at hp
    | cons a b => exact ⟨a, b, rfl⟩
  have ht0 : t0.length = m := hM t0 (by rw [hM0]; simp)
  have hb := rng62 (n := m) (by omega)
  refine sr_ret (d := tab (trans M m)) (ev_ifx (env2 := [.dat (tab M), .non, .non]) (p2 := true) (et_neP hr (v 0) (ev_tup ea_nil) (plain_tab M) rfl (.inr (by decide))) (fun _ => ?_) (fun h => ?_)) (qr rfl)
  · refine EV.to (ev_tupleL T.tuple (EL.ev (LC.l (lc n16 (defScope s16) [("k", 1)] (.nm 1) (List.range m) (fun i => .int (i : Nat)) (fun k => row (M.map fun r => r.getD k 0)) (fun k => [.dat (tab M), .dat (.int (k : Nat)), .non])
      (IV.to (iv_range1 (j := (m : Int)) T.range (EV.to (ev_lenT T.len (ev_ixT (d := row t0) (v 0) ev_int (by rw [hM0]; exact atI_0))) (by rw [List.length_map, ht0])) hb.1 hb.2) (by rw [Int.toNat_natCast])) (room (by simp; omega)) (fun _ => pn 1) fun k hk b => ?_)))) (by unfold tab trans; rw [List.map_map]; rfl)
    have hkm : k < m := by simpa using hk
    refine EV.to (ev_tupleL T.tuple (EL.ev (LC.l (lc n16 (relS o16 (defScope s16)) [("row", 2)] (.nm 2) M row (fun t => rat (t.getD k 0)) (fun t => [.dat (tab M), .dat (.int (k : Nat)), .dat (row t)])
      (iv_tup (v 0)) (room (by omega)) (fun _ => pn 2) fun t ht b2 => ?_)))) (by unfold row; rw [List.map_map]; rfl)
    exact ev_ixT (v 2) (v 1) (atI_at (getD_some (by rw [hM t ht]; exact hkm)))
  · rw [hM0] at h
    cases h
/-! column_led -/
abbrev s17 : Stmt := top 17
theorem sc17 : FnScope ["table", "column"] ["table", "column"] (defScope s17) := ⟨rfl, rfl, rfl, by decide +kernel, rfl, by decide +kernel, by decide +kernel⟩
def cColLed : List PyData → PyData → Prop := fun ds d => ∃ rs M m, ds = [tab M, row rs] ∧ 0 < M.length ∧ M.length ≤ 1000 ∧ m ≤ 1000 ∧ (∀ t ∈ M, t.length = m) ∧ RowOk rs (trans M m) M.length ∧ d = row (rowMul rs (trans M m) M.length)
theorem ok_column_led (F : Fun K "column_led" "column_led" s17 f fd) (D15 : DP P w K mg base 2 "row_led" cRowLed) (D16 : DP P w K mg base 1 "across" cAcross) : FO P w K mg base 3 f fd ["table", "column"] cColLed := by
  refine fn_pure F sc17 (fun ds d ⟨rs, M, m, h, _⟩ => by rw [h]; rfl) fun cdv A outer s H E' hr ds d ⟨rs, M, m, hds, hp, hs1, hs2, hM, hO, hd⟩ => ?_
  subst hds hd
  have hr1 : Room 1 _ := hr.mono (by decide)
  exact sr_ret (call2 D15 hr (v 1) (call1 D16 hr1 (v 0) ⟨M, m, rfl, hp, hs1, hs2, hM, rfl⟩) ⟨rs, trans M m, M.length, rfl, hO, rfl⟩) (qr rfl)
/-! sum_of -/
abbrev s22 : Stmt := top 22
abbrev n22 : List Str := ["ratios", "found", "one"]
theorem sc22 : FnScope n22 ["ratios"] (defScope s22) := ⟨rfl, rfl, rfl, by decide +kernel, rfl, by decide +kernel, by decide +kernel⟩
def sumL (rs : List Rat) : Rat := rs.foldl (· + ·) 0
theorem sumL_eq : ∀ (rs : List Rat) (a : Rat), rs.foldl (· + ·) a = a + sumR rs
  | [], a => by show a = a + 0; grind
  | r :: rs, a => by
    rw [List.foldl_cons, sumL_eq rs]
    show a + r + sumR rs = a + (r + sumR rs)
    grind
def SumOk (rs : List Rat) : Prop := ∀ k, k ≤ rs.length → Sm 4000 (sumL (rs.take k))
def cSumOf : List PyData → PyData → Prop := fun ds d => ∃ rs, ds = [row rs] ∧ SumOk rs ∧ (∀ r ∈ rs, Sm 4000 r) ∧ d = rat (sumR rs)
theorem ok_sum_of (F : Fun K "sum_of" "sum_of" s22 f fd) (T : Txt K mg) (D7 : DP P w K mg base 2 "ratio_sum" cSum) : FO P w K mg base 3 f fd ["ratios"] cSumOf := by
  refine fn_pure F sc22 (fun ds d ⟨rs, h, _⟩ => by rw [h]; rfl) fun cdv A outer s H E' hr ds d ⟨rs, hds, hS, hR, hd⟩ => ?_
  subst hds hd
  have nd := sc22.nd
  refine as 1 (ev_globE T.none) ?_
  refine fr (.nm 2) (fun k e => e = [.dat (row rs), .dat (rat (sumL (rs.take k))), .non]) (iv_tup (v 0)) (pn 2) rfl (fun k d e hd he => ?_) (fun e he => ?_)
  · subst he
    obtain ⟨r, hk, rfl⟩ := map_at hd
    have hm : r ∈ rs := List.mem_of_getElem? hk
    refine ⟨_, rfl, as 1 (call2 D7 hr (v 1) (v 2) ⟨_, _, rfl, hS k (Nat.le_of_lt (List.getElem?_eq_some_iff.mp hk).1), hR r hm, rfl⟩) (sr_drop 2 (sr_nil ?_))⟩
    show _ = _
    rw [take_at hk]
    unfold sumL
    rw [List.foldl_append]
    rfl
  · subst he
    rw [List.length_map, List.take_length]
    refine sr_ret (v 1) (qr ?_)
    unfold sumL
    rw [sumL_eq]
    congr 1
    grind
/-! without_one -/
abbrev s23 : Stmt := top 23
abbrev n23 : List Str := ["relation", "one", "found", "here"]
theorem sc23 : FnScope n23 ["relation"] (defScope s23) := ⟨rfl, rfl, rfl, by decide +kernel, rfl, by decide +kernel, by decide +kernel⟩
/-- sums of the beginnings -/
def begs (rs : List Rat) : List Rat := (List.range rs.length).map fun k => sumL (rs.take (k + 1))
def cWithout : List PyData → PyData → Prop := fun ds d => ∃ rs, ds = [row rs] ∧ 1 ≤ rs.length ∧ rs.length ≤ 1000 ∧ SumOk (rs.drop 1).reverse ∧ (∀ r ∈ rs, Sm 4000 r) ∧ d = row (ends rs.tail)
theorem begs_take (rs : List Rat) (k : Nat) (hk : k < rs.length) : ((List.range (k + 1)).map fun j => sumL (rs.take (j + 1))) = ((List.range k).map fun j => sumL (rs.take (j + 1))) ++ [sumL (rs.take (k + 1))] := by
  rw [List.range_succ, List.map_append]
  rfl
theorem sumR_app : ∀ a b : List Rat, sumR (a ++ b) = sumR a + sumR b
  | [], b => by show sumR b = 0 + sumR b; grind
  | x :: a, b => by
    show x + sumR (a ++ b) = (x + sumR a) + sumR b
    rw [sumR_app a b]
    grind
theorem sumR_rev : ∀ a : List Rat, sumR a.reverse = sumR a
  | [] => rfl
  | x :: a => by
    rw [List.reverse_cons, sumR_app, sumR_rev a]
    show sumR a + (x + 0) = x + sumR a
    grind
theorem sumL_sumR (rs : List Rat) : sumL rs = sumR rs := by
  unfold sumL
  rw [sumL_eq]
  grind
theorem begs_snoc (q : List Rat) (a : Rat) : begs (q ++ [a]) = begs q ++ [sumL (q ++ [a])] := by
  unfold begs
  rw [List.length_append, List.length_singleton, List.range_succ, List.map_append]
  congr 1
  · apply List.map_congr_left
    intro k hk
    have : k < q.length := by simpa using hk
    rw [List.take_append_of_le_length (by omega)]
  · simp [List.take_of_length_le]
theorem begs_ends : ∀ rs : List Rat, (begs rs.reverse).reverse = ends rs
  | [] => rfl
  | a :: r => by
    rw [List.reverse_cons, begs_snoc, List.reverse_append, begs_ends r, sumL_sumR, sumR_app, sumR_rev]
    show [sumR r + (a + 0)] ++ ends r = ends (a :: r)
    have : sumR r + (a + 0) = a + sumR r := by grind
    rw [this]
    rfl
theorem ok_without_one (F : Fun K "without_one" "without_one" s23 f fd) (T : Txt K mg) (D7 : DP P w K mg base 2 "ratio_sum" cSum) : FO P w K mg base 3 f fd ["relation"] cWithout := by
  refine fn_pure F sc23 (fun ds d ⟨rs, h, _⟩ => by rw [h]; rfl) fun cdv A outer s H E' hr ds d ⟨rs, hds, h1, h2, hS, hR, hd⟩ => ?_
  subst hds hd
  have nd := sc23.nd
  refine sr_par (i := 2) (j := 3) rfl nd rfl rfl (by decide) rfl rfl (egs_cons (EL.eg (el_lst ea_nil)) (egs_cons (EV.eg (ev_globE T.none)) egs_nil)) ?_
  refine sr_open 2 rfl fun l => ?_
  generalize hq : (rs.drop 1).reverse = qs at hS
  have hqm : ∀ q ∈ qs, q ∈ rs := fun q h => by rw [← hq] at h; exact List.mem_of_mem_drop (List.mem_reverse.mp h)
  have hql : qs.length ≤ 1000 := by rw [← hq]; simp; omega
  refine fr (.nm 1) (fun k e => e = [.dat (row rs), .non, .own (lstA K l (((List.range k).map fun j => sumL (qs.take (j + 1))).map rat)), .dat (rat (sumL (qs.take k)))]) (its := qs.map rat) (IV.to (iv_tup (ev_neg1 (v 0) (by rw [List.length_map]; exact h1))) (by rw [← hq, ← List.map_drop, List.map_reverse])) (pn 1) rfl (fun k d e hd he => ?_) (fun e he => ?_)
  · subst he
    obtain ⟨r, hk, rfl⟩ := map_at hd
    have hm : r ∈ qs := List.mem_of_getElem? hk
    have hkl := (List.getElem?_eq_some_iff.mp hk).1
    refine ⟨_, rfl, as 3 (d := rat (sumL (qs.take (k + 1)))) (call2 D7 hr (v 3) (v 1) ⟨_, _, rfl, hS k (Nat.le_of_lt hkl), hR r (hqm r hm), ?_⟩) (ap 2 (v 3) ?_ (sr_drop 1 (sr_nil ?_)))⟩
    · rw [take_at hk]
      unfold sumL
      rw [List.foldl_append]
      rfl
    · rw [List.length_map, List.length_map, List.length_range]
      exact Nat.lt_of_le_of_lt (show k ≤ 1000 by omega) (by decide)
    · show _ = _
      rw [begs_take _ _ hkl, List.map_append]
      rfl
  · subst he
    rw [List.length_map]
    refine sr_freeze 2 rfl (sr_ret (ev_tupleL T.tuple (EL.ev (el_rev (v 2)))) (qr ?_))
    show PyData.tuple _ = PyData.tuple _
    have := begs_ends (rs.drop 1)
    rw [hq] at this
    rw [← List.map_reverse, show ((List.range qs.length).map fun j => sumL (qs.take (j + 1))).reverse = ends rs.tail by rw [← List.drop_one, ← this]; rfl]
end
end K46
end
section
set_option Elab.async false
set_option linter.all false
set_option maxRecDepth 100000
set_option maxHeartbeats 2000000
set_option exponentiation.threshold 20000
namespace K46
open PySem PySem.Spec L2 Pu RB RW
open SC (lcms wholes aw settle sumR ends lcm_fold_least lcms_pos cast gcd_fold_dvd)
def Bits (b : Nat) (l : List Int) : Prop := ∀ x ∈ l, x.natAbs < 2 ^ b
def mid (l : List Int) : List Int := List.zipWith (fun a b => l.getLastD 0 * a - l.headD 0 * b) l l.reverse
theorem mid_zip (l : List Int) : mid l = (l.zip l.reverse).map fun p => l.getLastD 0 * p.1 - l.headD 0 * p.2 := by
  unfold mid
  rw [List.zip, List.map_zipWith]
theorem aw_step (m : Nat) (l : List Int) (h : 1 < l.length) : aw (m + 1) l = if (l.headD 0).natAbs < (l.getLastD 0).natAbs then aw m (small (mid l).tail) else false := by
  show (if l.length ≤ 1 then true else _) = _
  rw [if_neg (by omega)]
  rfl
theorem aw_end (m : Nat) (l : List Int) (h : l.length ≤ 1) : aw m l = true := by
  cases m with
  | zero => rfl
  | succ m =>
    show (if l.length ≤ 1 then true else _) = _
    rw [if_pos h]
theorem bits_head {b : Nat} {l : List Int} (h : Bits b l) : (l.headD 0).natAbs < 2 ^ b := by
  cases l with
  | nil => simp [Nat.two_pow_pos]
  | cons x l => exact h x (by simp)
theorem bits_last {b : Nat} {l : List Int} (h : Bits b l) : (l.getLastD 0).natAbs < 2 ^ b := by
  rw [List.getLastD_eq_getLast?]
  cases e : l.getLast? with
  | none => simp [Nat.two_pow_pos]
  | some x => exact h x (List.mem_of_getLast? e)
theorem bits_two {b : Nat} {x y u v : Int} (h1 : x.natAbs < 2 ^ b) (h2 : y.natAbs < 2 ^ b) (h3 : u.natAbs < 2 ^ b) (h4 : v.natAbs < 2 ^ b) : (x * y - u * v).natAbs < 2 ^ (2 * b + 1) := by
  have e1 : (x * y).natAbs < 2 ^ b * 2 ^ b := by rw [Int.natAbs_mul]; exact Nat.mul_lt_mul'' h1 h2
  have e2 : (u * v).natAbs < 2 ^ b * 2 ^ b := by rw [Int.natAbs_mul]; exact Nat.mul_lt_mul'' h3 h4
  have e3 : 2 ^ (2 * b + 1) = 2 * (2 ^ b * 2 ^ b) := by rw [Nat.pow_succ, Nat.two_mul, Nat.pow_add, Nat.mul_comm]
  rw [e3]
  generalize 2 ^ b * 2 ^ b = q at e1 e2
  omega
theorem bits_mid {b : Nat} {l : List Int} (h : Bits b l) : Bits (2 * b + 1) (mid l) := by
  intro x hx
  rw [mid_zip] at hx
  obtain ⟨p, hp, rfl⟩ := List.mem_map.mp hx
  have m1 := (List.of_mem_zip (show (p.1, p.2) ∈ _ from hp)).1
  have m2 := (List.of_mem_zip (show (p.1, p.2) ∈ _ from hp)).2
  exact bits_two (bits_last h) (h _ m1) (bits_head h) (h _ (List.mem_reverse.mp m2))
theorem bits_small {b : Nat} {l : List Int} (h : Bits b l) : Bits b (small l) := by
  rw [small_eq]
  split
  · intro x hx
    obtain ⟨y, hy, rfl⟩ := List.mem_map.mp hx
    have hd := (gcd_fold_dvd l 0).2 y hy
    have := h y hy
    rename_i hg
    refine Nat.lt_of_le_of_lt ?_ this
    have e : y / ((gcds l : Nat) : Int) = y.fdiv ((gcds l : Nat) : Int) := by rw [Int.fdiv_eq_ediv_of_nonneg _ (by omega)]
    rw [e]
    exact fdiv_le (Int.ofNat_dvd_left.mpr hd) (by omega)
  · exact h
theorem bits_tail {b : Nat} {l : List Int} (h : Bits b l) : Bits b l.tail := fun x hx => h x (List.mem_of_mem_tail hx)
theorem cut_1 {l : List PyData} : cutD l (some 1) none = l.tail := by
  unfold cutD
  rw [HT.sIx_none]
  have : HT.sIx l.length 0 (some 1) = min 1 l.length := HT.sIx_nat _ _ 1
  rw [this, List.take_of_length_le (by simp), ← List.drop_one]
  by_cases h : 1 ≤ l.length
  · rw [Nat.min_eq_left h]
  · have : l = [] := List.length_eq_zero_iff.mp (by omega)
    subst this
    rfl
section
variable {P : Program} {w : World} {K : PySem.W.Frag} {mg : Str → Option Value} {base : Heap} {f : Addr} {fd : FuncData} {C : Addr}
/-! are_within -/
abbrev s25 : Stmt := top 25
abbrev n25 : List Str := ["numbers", "turned", "first", "last", "one", "late"]
theorem sc25 : FnScope n25 ["numbers"] (defScope s25) := ⟨rfl, rfl, rfl, by decide +kernel, rfl, by decide +kernel, by decide +kernel⟩
def cWithin : List PyData → PyData → Prop := fun ds d => ∃ ns b, ds = [zs ns] ∧ Bits b ns ∧ (b + 1) * 2 ^ (ns.length - 1) ≤ 9000 ∧ ns.length ≤ 1000 ∧ d = .bool (aw (ns.length - 1) ns)
theorem ok_are_within (F : Fun K "are_within" "are_within" s25 f fd) (T : Txt K mg) (D11 : DP P w K mg base 1 "made_small" cMadeSmall) : FO P w K mg base 2 f fd ["numbers"] cWithin := by
  refine fn_pure F sc25 (fun ds d ⟨ns, b, h, _⟩ => by rw [h]; rfl) fun cdv A outer s H E' hr ds d ⟨ns, b0, hds, hb0, hb1, hl0, hd⟩ => ?_
  subst hds hd
  have nd := sc25.nd
  refine sr_while (fun m e => ∃ l b, e = [.dat (zs l), .non, .non, .non, .non, .non] ∧ Bits b l ∧ (b + 1) * 2 ^ m ≤ 9000 ∧ l.length ≤ m + 1 ∧ l.length ≤ 1000 ∧ aw m l = aw (ns.length - 1) ns) PassesOwn.never (ns.length - 1) ⟨ns, b0, rfl, hb0, hb1, by omega, hl0, rfl⟩ ?_
  rintro m e ⟨l, b, rfl, hb, hbm, hlm, hl, haw⟩
  refine ⟨_, _, _, et_gt (ev_lenL T.len (v 0)) ev_int, fun h => ?_, fun h => ?_⟩
  · have hl1 : 1 < l.length := by
      have : (1 : Int) < ((l.map PyData.int).length : Int) := by simpa using h
      rw [List.length_map] at this
      omega
    obtain ⟨m', rfl⟩ : ∃ m', m = m' + 1 := ⟨m - 1, by omega⟩
    obtain ⟨x0, l0, hx0⟩ : ∃ x0 l0, l = x0 :: l0 := by
      cases l with
      | nil => simp at hl1
      | cons a b => exact ⟨a, b, rfl⟩
    have hh : atI (l.map PyData.int) 0 = some (.int (l.headD 0)) := by rw [hx0]; exact atI_0
    rw [aw_step m' l hl1] at haw
    have b9 : 2 * b + 1 ≤ 9000 := by
      have : 1 ≤ 2 ^ m' := Nat.one_le_two_pow
      rw [Nat.pow_succ] at hbm
      have h2 : (b + 1) * (1 * 2) ≤ (b + 1) * (2 ^ m' * 2) := Nat.mul_le_mul_left _ (Nat.mul_le_mul_right _ this)
      omega
    refine sr_tup (t := .t2 (.nm 2) (.nm 3)) (ev_tup (ea2 (ev_ixL (v 0) ev_int hh) (ev_ixL (v 0) (ev_neg ev_int) (atI_last (by omega))))) (pt2 (pn 2) (pn 3)) rfl ?_
    refine sr_if (et_ge (ev_abs T.abs (v 2)) (ev_abs T.abs (v 3))) (fun h => ?_) (fun h => sr_nil ?_)
    · have : ¬ (l.headD 0).natAbs < (l.getLastD 0).natAbs := by
        have : ((l.getLastD 0).natAbs : Int) ≤ ((l.headD 0).natAbs : Int) := by simpa using h
        omega
      rw [if_neg this] at haw
      exact sr_ret ev_bl (qr (e := []) (by rw [← haw]))
    · have hlt : (l.headD 0).natAbs < (l.getLastD 0).natAbs := by
        have : ¬ ((l.getLastD 0).natAbs : Int) ≤ ((l.headD 0).natAbs : Int) := by simpa using h
        omega
      rw [if_pos hlt] at haw
      refine as 1 (EL.ev (el_rev (v 0))) ?_
      have hm9 : Bits (2 * b + 1) (mid l) := bits_mid hb
      have len : (mid l).length = l.length := by unfold mid; simp
      have p9 : ∀ {x : Int}, x.natAbs < 2 ^ b → x.natAbs < 2 ^ 9000 := fun h => Nat.lt_of_lt_of_le h (Nat.pow_le_pow_right (by decide) (by omega))
      refine as 0 (d := zs (small (mid l).tail)) (call1 D11 hr (d := zs (mid l).tail) (EV.to (EL.ev (el_slice (EL.ev (LC.l (lc n25 (defScope s25) [("one", 4), ("late", 5)] (.t2 (.nm 4) (.nm 5)) (l.zip l.reverse) (fun p => .tuple [.int p.1, .int p.2]) (fun p => .int (l.getLastD 0 * p.1 - l.headD 0 * p.2))
        (fun p => [.dat (zs l), .dat (.list (l.map PyData.int).reverse), .dat (.int (l.headD 0)), .dat (.int (l.getLastD 0)), .dat (.int p.1), .dat (.int p.2)]) (IV.to (iv_zipS T.zip (v 0) (v 1) (.l _) (.l _) ?_) ?_) ?_ (fun _ => pt2 (pn 4) (pn 5)) fun p hp bb => ?_))) (eo_some ev_int) eo_none)) ?_) ⟨_, rfl, ?_, ?_, rfl⟩) ?_
      · rw [List.length_reverse]
      · rw [← List.map_reverse, zip_zs]
      · exact room (by rw [List.length_zip, List.length_reverse]; omega)
      · have m1 := (List.of_mem_zip (show (p.1, p.2) ∈ _ from hp)).1
        have m2 := List.mem_reverse.mp (List.of_mem_zip (show (p.1, p.2) ∈ _ from hp)).2
        exact ev_sub (ev_mul (v 3) (v 4) (mulW (p9 (bits_last hb)) (p9 (hb _ m1)))) (ev_mul (v 2) (v 5) (mulW (p9 (bits_head hb)) (p9 (hb _ m2))))
      · show PyData.list (cutD _ (some 1) none) = _
        rw [cut_1, mid_zip]
        unfold zs
        rw [← List.map_tail, ← List.map_tail, List.map_map]
        rfl
      · exact fun x hx => Nat.lt_of_lt_of_le (bits_tail hm9 x hx) (Nat.pow_le_pow_right (by decide) b9)
      · rw [List.length_tail, len]; omega
      refine sr_drop 1 (sr_drop 2 (sr_drop 3 (sr_nil ⟨m', by omega, small (mid l).tail, 2 * b + 1, rfl, bits_small (bits_tail hm9), ?_, ?_, ?_, haw⟩)))
      · rw [Nat.pow_succ] at hbm
        have : (2 * b + 1 + 1) * 2 ^ m' = (b + 1) * (2 ^ m' * 2) := by
          rw [show 2 * b + 1 + 1 = 2 * (b + 1) by omega, Nat.mul_comm 2 (b + 1), Nat.mul_assoc, Nat.mul_comm 2]
        omega
      · rw [small_len, List.length_tail, len]; omega
      · rw [small_len, List.length_tail, len]; omega
  · have hl1 : l.length ≤ 1 := by
      have : ¬ (1 : Int) < ((l.map PyData.int).length : Int) := by simpa using h
      rw [List.length_map] at this
      omega
    rw [aw_end m l hl1] at haw
    exact sr_ret ev_bl (qr (e := []) (by rw [← haw]))
end
end K46
end
section
set_option Elab.async false
set_option linter.all false
set_option maxRecDepth 100000
set_option maxHeartbeats 2000000
set_option exponentiation.threshold 20000
namespace K46
open PySem PySem.Spec L2 Pu RB RW
open SC (lcms wholes aw settle sumR ends lcm_fold_least lcms_pos cast gcd_fold_dvd)
theorem rat_eqv (a b : Rat) : PyData.eqv (rat a) (rat b) = decide (a = b) := by
  have e : PyData.eqv (rat a) (rat b) = (decide (a.num = b.num) && decide ((a.den : Int) = (b.den : Int))) := by
    simp [rat, PyData.eqv, PyData.eqvAll]
    rw [beq_dec, beq_dec (a.den : Int)]
  rw [e]
  by_cases h : a = b
  · subst h; simp
  · rw [decide_eq_false h]
    cases h1 : decide (a.num = b.num) with
    | false => rfl
    | true =>
      have h1 := of_decide_eq_true h1
      have : ¬ (a.den : Int) = (b.den : Int) := fun h2 => h (Rat.ext h1 (by omega))
      simp [this]
/-- sizes of one list of numbers to be tested -/
structure TestOk (rs : List Rat) : Prop where
  over : ∃ E, Over E rs
  sm : ∀ r ∈ rs, Sm 4000 r
  sum : SumOk rs
  bits : ∃ b, Bits b (wholes rs) ∧ (b + 1) * 2 ^ (rs.length - 1) ≤ 9000
  len : rs.length ≤ 1000
structure SetOk (rs : List Rat) : Prop where
  one : 1 ≤ rs.length
  fst : TestOk rs
  snd : TestOk (ends rs.tail)
  rev : SumOk (rs.drop 1).reverse
section
variable {P : Program} {w : World} {K : PySem.W.Frag} {mg : Str → Option Value} {base : Heap} {f : Addr} {fd : FuncData} {C : Addr}
/-! is_settling -/
abbrev s26 : Stmt := top 26
abbrev n26 : List Str := ["relation", "rest"]
theorem sc26 : FnScope n26 ["relation"] (defScope s26) := ⟨rfl, rfl, rfl, by decide +kernel, rfl, by decide +kernel, by decide +kernel⟩
def cSettle : List PyData → PyData → Prop := fun ds d => ∃ rs, ds = [row rs] ∧ SetOk rs ∧ d = .bool (SC.settle rs)
theorem plain_rat (r : Rat) : (rat r).plain = true := rfl
theorem depth_rat (r : Rat) : (rat r).depth ≤ 100 := by show 1 ≤ 100; decide
theorem ok_is_settling (F : Fun K "is_settling" "is_settling" s26 f fd) (T : Txt K mg) (D22 : DP P w K mg base 3 "sum_of" cSumOf) (D23 : DP P w K mg base 3 "without_one" cWithout) (D10 : DP P w K mg base 1 "whole_row" cWholeRow) (D25 : DP P w K mg base 2 "are_within" cWithin) : FO P w K mg base 4 f fd ["relation"] cSettle := by
  refine fn_pure F sc26 (fun ds d ⟨rs, h, _⟩ => by rw [h]; rfl) fun cdv A outer s H E' hr ds d ⟨rs, hds, hO, hd⟩ => ?_
  subst hds hd
  have nd := sc26.nd
  have hr1 : Room 1 _ := hr.mono (by decide)
  have hr2 : Room 2 _ := hr.mono (by decide)
  obtain ⟨h1, t1, t2, hv⟩ := hO
  obtain ⟨E1, o1⟩ := t1.over
  obtain ⟨E2, o2⟩ := t2.over
  obtain ⟨b1, q1, q2⟩ := t1.bits
  obtain ⟨b2, q3, q4⟩ := t2.bits
  refine sr_if (ET.to (et_neP hr (call1 D22 hr (v 0) ⟨rs, rfl, t1.sum, t1.sm, rfl⟩) (ev_globE T.none) (plain_rat _) (plain_rat _) (.inl (depth_rat _))) (congrArg (fun b => !b) (rat_eqv _ _))) (fun h => ?_) (fun h => sr_nil ?_)
  · have hs : sumR rs ≠ 0 := by simpa using h
    refine sr_ret (call1 D25 hr2 (ev_ixT (call1 D10 hr1 (v 0) ⟨_, rs, E1, rfl, .t _, o1, rfl⟩) ev_int rfl) ⟨_, b1, rfl, q1, by rw [wholes_len]; exact q2, by rw [wholes_len]; exact t1.len, rfl⟩) (qr (e := []) ?_)
    unfold SC.settle
    rw [if_pos hs, wholes_len]
  · have hs : ¬ sumR rs ≠ 0 := by
      intro c
      simp [c] at h
    refine as 1 (call1 D23 hr (v 0) ⟨rs, rfl, h1, t1.len, hv, t1.sm, rfl⟩) ?_
    refine sr_ret (ev_and (EV.to (ev_neP hr (call1 D22 hr (v 1) ⟨ends rs.tail, rfl, t2.sum, t2.sm, rfl⟩) (ev_globE T.none) (plain_rat _) (plain_rat _) (.inl (depth_rat _))) (congrArg (fun b => PyData.bool (!b)) (rat_eqv _ _))) fun _ => ev_one (call1 D25 hr2 (ev_ixT (call1 D10 hr1 (v 1) ⟨_, ends rs.tail, E2, rfl, .t _, o2, rfl⟩) ev_int rfl) ⟨_, b2, rfl, q3, by rw [wholes_len]; exact q4, by rw [wholes_len]; exact t2.len, rfl⟩)) (qr ?_)
    unfold SC.settle
    rw [if_neg hs, wholes_len]
    congr 2
    by_cases c : sumR (ends rs.tail) = 0 <;> simp [c]
end
end K46
end
section
set_option Elab.async false
set_option linter.all false
set_option exponentiation.threshold 20000
/-! the companion: what led_down does there (plain) -/
namespace K46
open PySem RB
open SC (lcms wholes sumR lcm_fold_least lcms_pos)
def tabI {α : Type} (N : Nat) (g : Nat → α) : List α := (List.range N).map g
theorem tab_len {α : Type} {N : Nat} {g : Nat → α} : (tabI N g).length = N := by simp [tabI]
theorem tab_get {α : Type} {N i : Nat} {g : Nat → α} : (tabI N g)[i]? = if i < N then some (g i) else none := by
  unfold tabI
  rw [List.getElem?_map]
  by_cases h : i < N
  · rw [List.getElem?_range h, if_pos h]; rfl
  · rw [if_neg h, List.getElem?_eq_none (by simpa using h)]; rfl
theorem tab_getD {N i : Nat} {g : Nat → Int} : (tabI N g).getD i 0 = if i < N then g i else 0 := by
  rw [List.getD_eq_getElem?_getD, tab_get]
  split <;> rfl
theorem tab_ext {α : Type} {N : Nat} {g h : Nat → α} (e : ∀ i, i < N → g i = h i) : tabI N g = tabI N h := List.map_congr_left fun i hi => e i (by simpa using hi)
theorem list_ext {α : Type} {N : Nat} {l : List α} {g : Nat → α} (hl : l.length = N) (e : ∀ i, i < N → l[i]? = some (g i)) : l = tabI N g := by
  apply List.ext_getElem?
  intro i
  rw [tab_get]
  by_cases h : i < N
  · rw [if_pos h, e i h]
  · rw [if_neg h, List.getElem?_eq_none (by omega)]
theorem of_list (l : List Int) : l = tabI l.length fun i => l.getD i 0 := list_ext rfl fun i hi => by simp [List.getD_eq_getElem?_getD, hi]
theorem tab_app {N k : Nat} {g : Nat → Int} : tabI N g ++ List.replicate k 0 = tabI (N + k) fun i => if i < N then g i else 0 := list_ext (by simp [tab_len]) fun i hi => by
  by_cases h : i < N
  · rw [List.getElem?_append_left (by rw [tab_len]; exact h), tab_get, if_pos h, if_pos h]
  · rw [List.getElem?_append_right (by rw [tab_len]; omega), tab_len, if_neg h, List.getElem?_replicate, if_pos (by omega)]
theorem tab_snoc {α : Type} {N : Nat} {g : Nat → α} : tabI N g ++ [g N] = tabI (N + 1) g := by unfold tabI; rw [List.range_succ, List.map_append]; rfl
theorem tab_zip {α β γ : Type} {N : Nat} {f : α → β → γ} {g : Nat → α} {h : Nat → β} : List.zipWith f (tabI N g) (tabI N h) = tabI N fun i => f (g i) (h i) := by
  unfold tabI
  rw [List.zipWith_map, List.zipWith_self]
theorem tab_take {α : Type} {N k : Nat} {g : Nat → α} (h : k ≤ N) : (tabI N g).take k = tabI k g := by
  unfold tabI
  rw [← List.map_take, List.take_range, Nat.min_eq_left h]
theorem tab_fit {N : Nat} {g : Nat → Int} {B : Nat} (h : ∀ i, i < N → (g i).natAbs < 2 ^ B) : ∀ x ∈ tabI N g, x.natAbs < 2 ^ B := by
  intro x hx
  unfold tabI at hx
  obtain ⟨i, hi, rfl⟩ := List.mem_map.mp hx
  exact h i (by simpa using hi)

/-! ### numbers of unit rows -/
def uI (n i : Nat) : List Int := tabI n fun x => if x = i then 1 else 0
theorem den_unit {n i : Nat} : ∀ r ∈ unit n i, r.den = 1 := by
  intro r hr
  unfold unit at hr
  obtain ⟨k, _, rfl⟩ := List.mem_map.mp hr
  split <;> rfl
theorem lcms_one {rs : List Rat} (h : ∀ r ∈ rs, r.den = 1) : lcms rs = 1 := by
  have h1 := lcm_fold_least rs 1 1 (Nat.one_dvd _) fun r hr => by rw [h r hr]; exact Nat.one_dvd _
  have h2 := lcms_pos rs
  exact Nat.dvd_one.mp h1
theorem wholes_unit (n i : Nat) : wholes (unit n i) = uI n i := by
  unfold wholes
  rw [lcms_one den_unit]
  unfold unit uI tabI
  rw [List.map_map]
  apply List.map_congr_left
  intro k _
  simp only [Function.comp]
  split <;> rfl
/-- the echelon behind j unit rows -/
def eE (n i : Nat) : List Int := tabI (n + i + 1) fun x => if x = i ∨ x = n + i then 1 else 0
def eEs (n j : Nat) : List (Nat × List Int) := tabI j fun i => (i, eE n i)
def ones (j : Nat) : List Int := List.replicate j 1
theorem fold_id : ∀ (E : List (Nat × List Int)) (f : List Int), (∀ e ∈ E, f.getD e.1 0 = 0) → E.foldl ledStep f = f
  | [], _, _ => rfl
  | e :: E, f, h => by
    have : ledStep f e = f := by unfold ledStep; rw [if_pos (h e (by simp))]
    rw [List.foldl_cons, this]
    exact fold_id E f fun e' he => h e' (by simp [he])
theorem led0_unit (n j : Nat) (hj : j < n) : led0 (ones j) (uI n j) = eE n j := by
  unfold led0 ones uI eE
  rw [List.length_replicate, tab_app]
  have : tabI (n + j) (fun i => if i < n then (if i = j then (1 : Int) else 0) else 0) = tabI (n + j) fun x => if x = j ∨ x = n + j then (1 : Int) else 0 := tab_ext fun i hi => by
    by_cases h : i < n
    · rw [if_pos h]
      by_cases h2 : i = j
      · simp [h2]
      · have : ¬ (i = j ∨ i = n + j) := by omega
        rw [if_neg h2, if_neg this]
    · have : ¬ (i = j ∨ i = n + j) := by omega
      rw [if_neg h, if_neg this]
  rw [this, ← tab_snoc]
  simp
theorem eEs_mem {n j : Nat} {e : Nat × List Int} (h : e ∈ eEs n j) : ∃ i, i < j ∧ e = (i, eE n i) := by
  unfold eEs tabI at h
  obtain ⟨i, hi, rfl⟩ := List.mem_map.mp h
  exact ⟨i, by simpa using hi, rfl⟩
theorem eE_zero {n j i : Nat} (hj : j < n) (hi : i < j) : (eE n j).getD i 0 = 0 := by
  unfold eE
  rw [tab_getD, if_pos (by omega), if_neg (by omega)]
theorem eE_fit (n i : Nat) : Fit (eE n i) := tab_fit fun x _ => by split <;> decide
theorem led_unit (n j k : Nat) (hj : j < n) : ((eEs n j).take k).foldl ledStep (led0 (ones j) (uI n j)) = eE n j := by
  rw [led0_unit n j hj]
  refine fold_id _ _ fun e he => ?_
  obtain ⟨i, hi, rfl⟩ := eEs_mem (List.mem_of_mem_take he)
  exact eE_zero hj hi
theorem ledOk_unit (n j : Nat) (hj : j < n) (hn : n ≤ 1000) : LedOk (ones j) (eEs n j) (uI n j) where
  len := by simp [ones, uI, tab_len]; omega
  pl := fun e he => by
    obtain ⟨i, hi, rfl⟩ := eEs_mem he
    refine ⟨?_, ?_, eE_fit n i⟩
    · show i < (eE n i).length
      unfold eE; rw [tab_len]; omega
    · show (eE n i).length ≤ _
      unfold eE ones uI; rw [tab_len, tab_len, List.length_replicate]; omega
  fit := fun k _ => by rw [led_unit n j k hj]; exact eE_fit n j
  mid := fun k e hk h => by
    rw [led_unit n j k hj] at h
    obtain ⟨i, hi, rfl⟩ := eEs_mem (List.mem_of_getElem? hk)
    exact absurd (eE_zero hj hi) h
theorem led_unit_all (n j : Nat) (hj : j < n) : led (ones j) (eEs n j) (uI n j) = eE n j := by
  have := led_unit n j (eEs n j).length hj
  rwa [List.take_length] at this
theorem first_unit (n j : Nat) (hj : j < n) : First (leftOf (ones j) (eEs n j) (uI n j)) j := by
  unfold leftOf
  rw [led_unit_all n j hj]
  unfold uI eE
  rw [tab_len, tab_take (by omega)]
  refine ⟨by rw [tab_len]; exact hj, ?_, fun i hi => ?_⟩
  · rw [tab_getD, if_pos hj]; simp
  · rw [tab_getD, if_pos (by omega), if_neg (by omega)]

/-! ### the last one -/
def fk (n : Nat) (m : Nat → Int) (k : Nat) : List Int := tabI (n + n + 1) fun x => if x < n then (if x < k then 0 else m x) else if x < n + n then (if x - n < k then -m (x - n) else 0) else 1
theorem led0_last (n : Nat) (m : Nat → Int) : led0 (ones n) (tabI n m) = fk n m 0 := by
  unfold led0 ones fk
  rw [List.length_replicate, tab_app, ← tab_snoc]
  congr 1
  · exact tab_ext fun i hi => by
      by_cases h : i < n
      · simp [h]
      · simp [h, hi]
  · rw [if_neg (by omega), if_neg (by omega)]
theorem gcds_one {l : List Int} (h : (1 : Int) ∈ l) : gcds l = 1 := by
  have := (SC.gcd_fold_dvd l 0).2 1 h
  exact Nat.dvd_one.mp this
theorem small_one {l : List Int} (h : (1 : Int) ∈ l) : small l = l := by
  rw [small_eq, gcds_one h, if_neg (by decide)]
theorem fk_one (n : Nat) (m : Nat → Int) (k : Nat) : (1 : Int) ∈ fk n m k := by
  refine List.mem_of_getElem? (i := n + n) ?_
  unfold fk
  rw [tab_get, if_pos (by omega), if_neg (by omega), if_neg (by omega)]
theorem mid_fk (n : Nat) (m : Nat → Int) (k : Nat) (hk : k < n) (h0 : m k ≠ 0) : ledMid (fk n m k) (k, eE n k) = fk n m (k + 1) := by
  have e1 : (fk n m k).getD k 0 = m k := by
    unfold fk
    rw [tab_getD, if_pos (by omega), if_pos hk, if_neg (by omega)]
  have e2 : (eE n k).getD k 0 = 1 := by
    unfold eE
    rw [tab_getD, if_pos (by omega), if_pos (by omega)]
  unfold ledMid
  show List.zipWith (fun a b => a * (((eE n k).getD k 0).fdiv ((Nat.gcd ((fk n m k).getD k 0).natAbs ((eE n k).getD k 0).natAbs : Nat) : Int)) - b * (((fk n m k).getD k 0).fdiv ((Nat.gcd ((fk n m k).getD k 0).natAbs ((eE n k).getD k 0).natAbs : Nat) : Int))) (fk n m k) (eE n k ++ List.replicate ((fk n m k).length - (eE n k).length) 0) = _
  rw [e1, e2]
  have g : (Nat.gcd (m k).natAbs (1 : Int).natAbs : Nat) = 1 := Nat.gcd_one_right _
  rw [g]
  have d1 : (1 : Int).fdiv ((1 : Nat) : Int) = 1 := by decide
  have d2 : (m k).fdiv ((1 : Nat) : Int) = m k := Int.fdiv_one _
  rw [d1, d2]
  have l1 : (fk n m k).length = n + n + 1 := tab_len
  have l2 : (eE n k).length = n + k + 1 := tab_len
  rw [l1, l2]
  unfold eE
  rw [tab_app, show n + k + 1 + (n + n + 1 - (n + k + 1)) = n + n + 1 by omega]
  unfold fk
  rw [tab_zip]
  exact tab_ext fun x hx => by
    show (if x < n then (if x < k then 0 else m x) else if x < n + n then (if x - n < k then -m (x - n) else 0) else 1) * 1 - (if x < n + k + 1 then (if x = k ∨ x = n + k then 1 else 0) else 0) * m k = if x < n then (if x < k + 1 then 0 else m x) else if x < n + n then (if x - n < k + 1 then -m (x - n) else 0) else 1
    by_cases h2 : x = k
    · subst h2
      rw [if_pos hk, if_neg (by omega), if_pos (show x < n + x + 1 by omega), if_pos (.inl rfl), if_pos hk, if_pos (by omega)]
      omega
    by_cases h3 : x = n + k
    · subst h3
      have e : n + k - n = k := by omega
      rw [if_neg (by omega), if_pos (by omega), if_neg (by omega), if_pos (show n + k < n + k + 1 by omega), if_pos (.inr rfl), if_neg (by omega), if_pos (by omega), if_pos (by omega), e]
      omega
    have e : (if x < n + k + 1 then (if x = k ∨ x = n + k then (1 : Int) else 0) else 0) = 0 := by
      rw [if_neg (show ¬ (x = k ∨ x = n + k) by omega)]
      split <;> rfl
    rw [e, Int.mul_one, Int.zero_mul, Int.sub_zero]
    by_cases h1 : x < n
    · rw [if_pos h1, if_pos h1]
      by_cases h4 : x < k
      · rw [if_pos h4, if_pos (by omega)]
      · rw [if_neg h4, if_neg (by omega)]
    · rw [if_neg h1, if_neg h1]
      by_cases h4 : x < n + n
      · rw [if_pos h4, if_pos h4]
        by_cases h5 : x - n < k
        · rw [if_pos h5, if_pos (by omega)]
        · rw [if_neg h5, if_neg (by omega)]
      · rw [if_neg h4, if_neg h4]
theorem step_fk (n : Nat) (m : Nat → Int) (k : Nat) (hk : k < n) : ledStep (fk n m k) (k, eE n k) = fk n m (k + 1) := by
  have e1 : (fk n m k).getD k 0 = m k := by
    unfold fk
    rw [tab_getD, if_pos (by omega), if_pos hk, if_neg (by omega)]
  unfold ledStep
  show (if (fk n m k).getD k 0 = 0 then _ else _) = _
  rw [e1]
  by_cases h0 : m k = 0
  · rw [if_pos h0]
    unfold fk
    exact tab_ext fun x hx => by
      by_cases h1 : x < n
      · rw [if_pos h1, if_pos h1]
        by_cases h2 : x = k
        · subst h2; rw [if_neg (by omega), if_pos (by omega), h0]
        · by_cases h3 : x < k
          · rw [if_pos h3, if_pos (by omega)]
          · rw [if_neg h3, if_neg (by omega)]
      · rw [if_neg h1, if_neg h1]
        by_cases h4 : x < n + n
        · rw [if_pos h4, if_pos h4]
          by_cases h2 : x - n = k
          · rw [if_neg (by omega), if_pos (by omega), h2, h0]; rfl
          · by_cases h3 : x - n < k
            · rw [if_pos h3, if_pos (by omega)]
            · rw [if_neg h3, if_neg (by omega)]
        · rw [if_neg h4, if_neg h4]
  · rw [if_neg h0, mid_fk n m k hk h0, small_one (fk_one _ _ _)]
theorem fold_fk (n : Nat) (m : Nat → Int) : ∀ k, k ≤ n → ((eEs n n).take k).foldl ledStep (led0 (ones n) (tabI n m)) = fk n m k
  | 0, _ => by rw [List.take_zero, List.foldl_nil, led0_last]
  | k + 1, hk => by
    have e : (eEs n n).take (k + 1) = (eEs n n).take k ++ [(k, eE n k)] := by
      refine Pu.take_at ?_
      unfold eEs
      rw [tab_get, if_pos (by omega)]
    rw [e, List.foldl_append, fold_fk n m k (by omega)]
    exact step_fk n m k (by omega)
theorem fk_fit {n : Nat} {m : Nat → Int} (h : ∀ i, i < n → (m i).natAbs < 2 ^ 4000) (k : Nat) : Fit (fk n m k) := tab_fit fun x hx => by
  have p : 0 < 2 ^ 4000 := Nat.two_pow_pos _
  have q : 1 < 2 ^ 4000 := Nat.one_lt_two_pow (by decide)
  by_cases h1 : x < n
  · rw [if_pos h1]
    split
    · exact p
    · exact h x h1
  · rw [if_neg h1]
    split
    · split
      · rw [Int.natAbs_neg]; exact h _ (by omega)
      · exact p
    · exact q
theorem ledOk_last (n : Nat) (m : Nat → Int) (hn : n ≤ 1000) (h : ∀ i, i < n → (m i).natAbs < 2 ^ 4000) : LedOk (ones n) (eEs n n) (tabI n m) where
  len := by simp [ones, tab_len]; omega
  pl := fun e he => by
    obtain ⟨i, hi, rfl⟩ := eEs_mem he
    refine ⟨?_, ?_, eE_fit n i⟩
    · show i < (eE n i).length
      unfold eE; rw [tab_len]; omega
    · show (eE n i).length ≤ _
      unfold eE ones; rw [tab_len, tab_len, List.length_replicate]; omega
  fit := fun k hk => by
    have : (eEs n n).length = n := tab_len
    rw [fold_fk n m k (by omega)]
    exact fk_fit h k
  mid := fun k e hk h0 => by
    have hl : (eEs n n).length = n := tab_len
    have hkn : k < n := by
      have := (List.getElem?_eq_some_iff.mp hk).1
      omega
    unfold eEs at hk
    rw [tab_get, if_pos hkn] at hk
    cases hk
    rw [fold_fk n m k (by omega)] at h0 ⊢
    have e1 : (fk n m k).getD k 0 = m k := by
      unfold fk
      rw [tab_getD, if_pos (by omega), if_pos hkn, if_neg (by omega)]
    have h0 : (fk n m k).getD k 0 ≠ 0 := h0
    rw [e1] at h0
    rw [mid_fk n m k hkn h0]
    exact fk_fit h _
theorem led_last (n : Nat) (m : Nat → Int) : led (ones n) (eEs n n) (tabI n m) = fk n m n := by
  have h := fold_fk n m n (Nat.le_refl _)
  rwa [List.take_of_length_le (by unfold eEs; rw [tab_len]; exact Nat.le_refl _)] at h
theorem left_last (n : Nat) (m : Nat → Int) : ∀ x ∈ leftOf (ones n) (eEs n n) (tabI n m), x = 0 := by
  intro x hx
  unfold leftOf at hx
  rw [led_last, tab_len] at hx
  unfold fk at hx
  rw [tab_take (by omega)] at hx
  unfold tabI at hx
  obtain ⟨i, hi, rfl⟩ := List.mem_map.mp hx
  have : i < n := by simpa using hi
  rw [if_pos this, if_pos this]
theorem made_last (n : Nat) (m : Nat → Int) : madeOf (ones n) (eEs n n) (tabI n m) = tabI n (fun i => -m i) ++ [1] := by
  unfold madeOf
  rw [led_last, tab_len]
  apply List.ext_getElem?
  intro i
  rw [List.getElem?_drop]
  unfold fk
  rw [tab_get]
  by_cases h : i < n
  · rw [List.getElem?_append_left (by rw [tab_len]; exact h), tab_get, if_pos h, if_pos (by omega), if_neg (by omega), if_pos (by omega), if_pos (by omega)]
    rw [Nat.add_sub_cancel_left]
  · rw [List.getElem?_append_right (by rw [tab_len]; omega), tab_len]
    by_cases h2 : i = n
    · subst h2
      rw [if_pos (by omega), if_neg (by omega), if_neg (by omega)]
      simp
    · rw [if_neg (by omega)]
      rw [List.getElem?_eq_none (by simp; omega)]
end K46
end
section
set_option Elab.async false
set_option linter.all false
set_option exponentiation.threshold 20000
namespace K46
open PySem RB
open SC (lcms wholes sumR lcm_fold_least lcms_pos)
/-! ### sizes -/
structure Nice (E N : Nat) (l : List Rat) : Prop where
  den : ∀ r ∈ l, r.den ∣ E
  num : ∀ r ∈ l, r.num.natAbs < 2 ^ N
theorem quo_size (a b : Int) (h : b ≠ 0) : ((a : Rat) / (b : Rat)).den ∣ b.natAbs ∧ ((a : Rat) / (b : Rat)).num.natAbs ≤ a.natAbs := by
  have hn := Rat.num_divInt a b
  have hd := Rat.den_divInt a b
  rw [Rat.divInt_eq_div] at hn hd
  rw [if_neg h] at hd
  have hg : b.gcd a = Nat.gcd b.natAbs a.natAbs := rfl
  have g0 : 0 < Nat.gcd b.natAbs a.natAbs := Nat.gcd_pos_of_pos_left _ (by omega)
  rw [hg] at hn hd
  constructor
  · rw [hd]
    exact Nat.div_dvd_of_dvd (Nat.gcd_dvd_left _ _)
  · rw [hn]
    have hdv : ((Nat.gcd b.natAbs a.natAbs : Nat) : Int) ∣ b.sign * a := Int.dvd_mul_of_dvd_right (Int.ofNat_dvd_left.mpr (Nat.gcd_dvd_right _ _))
    obtain ⟨q, hq⟩ := hdv
    have e : b.sign * a / ((Nat.gcd b.natAbs a.natAbs : Nat) : Int) = q := by rw [hq]; exact Int.mul_ediv_cancel_left _ (by omega)
    rw [e]
    have e2 : (b.sign * a).natAbs = a.natAbs := by
      rw [Int.natAbs_mul, Int.natAbs_sign_of_ne_zero h, Nat.one_mul]
    rw [← e2, hq, Int.natAbs_mul]
    exact Nat.le_mul_of_pos_left _ (by omega)
theorem div_size (r : Rat) (L : Nat) (h : 0 < L) : (r / ((L : Int) : Rat)).den ∣ r.den * L ∧ (r / ((L : Int) : Rat)).num.natAbs ≤ r.num.natAbs := by
  have e : r / ((L : Int) : Rat) = ((r.num : Int) : Rat) / (((r.den : Int) * (L : Int) : Int) : Rat) := by
    have h1 := num_den r
    have n1 : ((L : Int) : Rat) ≠ 0 := by exact_mod_cast (show (L : Int) ≠ 0 by omega)
    have n2 : ((r.den : Int) : Rat) ≠ 0 := by exact_mod_cast den_ne r
    have e2 : (((r.den : Int) * (L : Int) : Int) : Rat) = ((r.den : Int) : Rat) * ((L : Int) : Rat) := by push_cast; rfl
    rw [e2]
    grind
  have hd := r.den_pos
  have q := quo_size r.num ((r.den : Int) * (L : Int)) (Int.mul_ne_zero (by omega) (by omega))
  rw [← e] at q
  rw [Int.natAbs_mul] at q
  exact q
theorem Nice.over {E N : Nat} {l : List Rat} (h : Nice E N l) (h0 : 0 < E) (hE : E < 2 ^ 4000) (hN : N ≤ 4000) (hl : l.length ≤ 1000000) : Over E l :=
  ⟨h0, hE, h.den, fun r hr => Nat.lt_of_lt_of_le (h.num r hr) (Nat.pow_le_pow_right (by decide) hN), hl⟩
theorem Nice.sm {E N : Nat} {l : List Rat} (h : Nice E N l) (h0 : 0 < E) (hE : E < 2 ^ 4000) (hN : N ≤ 4000) : ∀ r ∈ l, Sm 4000 r := fun r hr =>
  ⟨Nat.lt_of_lt_of_le (h.num r hr) (Nat.pow_le_pow_right (by decide) hN), Nat.lt_of_le_of_lt (Nat.le_of_dvd h0 (h.den r hr)) hE⟩
theorem Nice.lcms {E N : Nat} {l : List Rat} (h : Nice E N l) : lcms l ∣ E := lcm_fold_least l 1 E (Nat.one_dvd _) h.den
theorem rowOk_of {E N m : Nat} {rs : List Rat} {M : List (List Rat)} (h0 : 0 < E) (hE : E < 2 ^ 1900) (hN : N ≤ 1900) (hl : rs.length = M.length) (hp : 0 < rs.length) (h1 : rs.length ≤ 1000) (h2 : m ≤ 1000) (hr : Nice E N rs) (hM : ∀ t ∈ M, t.length = m ∧ Nice E N t) : RowOk rs M m where
  len := hl
  pos := hp
  small := ⟨h1, h2⟩
  row := fun t ht => ⟨(hM t ht).1, E, (hM t ht).2.over h0 (Nat.lt_of_lt_of_le hE (Nat.pow_le_pow_right (by decide) (by decide))) (by omega) (by rw [(hM t ht).1]; omega)⟩
  sm := hr.sm h0 (Nat.lt_of_lt_of_le hE (Nat.pow_le_pow_right (by decide) (by decide))) (by omega)
  qu := ⟨E * E, by
    have q : ∀ x ∈ quot rs M, x.den ∣ E * E ∧ x.num.natAbs < 2 ^ N := by
      intro x hx
      unfold quot at hx
      rw [show List.zipWith (fun r t => r / (((SC.lcms t : Nat) : Int) : Rat)) rs M = (rs.zip M).map fun p => p.1 / (((SC.lcms p.2 : Nat) : Int) : Rat) by rw [List.zip, List.map_zipWith]] at hx
      obtain ⟨p, hp, rfl⟩ := List.mem_map.mp hx
      have m1 := (List.of_mem_zip (show (p.1, p.2) ∈ _ from hp)).1
      have m2 := (List.of_mem_zip (show (p.1, p.2) ∈ _ from hp)).2
      have d := div_size p.1 (SC.lcms p.2) (lcms_pos p.2)
      exact ⟨Nat.dvd_trans d.1 (Nat.mul_dvd_mul (hr.den _ m1) (hM _ m2).2.lcms), Nat.lt_of_le_of_lt d.2 (hr.num _ m1)⟩
    have hEE : E * E < 2 ^ 4000 := by
      have := Nat.mul_lt_mul'' hE hE
      rw [← Nat.pow_add] at this
      exact Nat.lt_of_lt_of_le this (Nat.pow_le_pow_right (by decide) (by decide))
    exact ⟨Nat.mul_pos h0 h0, hEE, fun x hx => (q x hx).1, fun x hx => Nat.lt_of_lt_of_le (q x hx).2 (Nat.pow_le_pow_right (by decide) (by omega)), by rw [quot_len hl]; omega⟩⟩

/-! ### sums -/
def S (n : Nat) (F : Nat → Rat) : Rat := sumR (tabI n F)
theorem S_succ (n : Nat) (F : Nat → Rat) : S (n + 1) F = S n F + F n := by
  unfold S
  rw [← tab_snoc, sumR_app]
  show sumR (tabI n F) + (F n + 0) = _
  grind
theorem S_ext {n : Nat} {F G : Nat → Rat} (h : ∀ i, i < n → F i = G i) : S n F = S n G := by unfold S; rw [tab_ext h]
theorem S_zero (n : Nat) : S n (fun _ => 0) = 0 := by
  induction n with
  | zero => rfl
  | succ n ih => rw [S_succ, ih]; grind
theorem S_delta (n i : Nat) (F : Nat → Rat) : S n (fun j => if j = i then F j else 0) = if i < n then F i else 0 := by
  induction n with
  | zero => rfl
  | succ n ih =>
    rw [S_succ, ih]
    by_cases h : i = n
    · subst h; simp; grind
    · by_cases h2 : i < n
      · rw [if_pos h2, if_neg (Ne.symm h), if_pos (by omega)]; grind
      · rw [if_neg h2, if_neg (Ne.symm h), if_neg (by omega)]; grind
theorem tabR_getD {N i : Nat} {g : Nat → Rat} : (tabI N g).getD i 0 = if i < N then g i else 0 := by
  rw [List.getD_eq_getElem?_getD, tab_get]
  split <;> rfl
/-- a table by its numbers -/
def tabM (n m : Nat) (A : Nat → Nat → Rat) : List (List Rat) := tabI n fun i => tabI m (A i)
theorem trans_tab (n m : Nat) (A : Nat → Nat → Rat) : trans (tabM n m A) m = tabM m n fun k i => A i k := by
  unfold trans tabM
  show tabI m (fun k => (tabI n fun i => tabI m (A i)).map fun r => r.getD k 0) = _
  exact tab_ext fun k hk => by
    unfold tabI
    rw [List.map_map]
    apply List.map_congr_left
    intro i _
    show (tabI m (A i)).getD k 0 = A i k
    rw [tabR_getD, if_pos hk]
theorem rowMul_tab (n m : Nat) (x : Nat → Rat) (A : Nat → Nat → Rat) : rowMul (tabI n x) (tabM n m A) m = tabI m fun k => S n fun j => x j * A j k := by
  unfold rowMul
  show tabI m (fun k => sumR (List.zipWith (fun r t => r * t.getD k 0) (tabI n x) (tabM n m A))) = _
  exact tab_ext fun k hk => by
    unfold tabM S
    rw [tab_zip]
    congr 1
    exact tab_ext fun j _ => by rw [tabR_getD, if_pos hk]
/-- the companion's numbers -/
def cA (n : Nat) (c : Nat → Rat) (k j : Nat) : Rat := if j + 1 = k then 1 else if j + 1 = n then -c k else 0
def comp (n : Nat) (c : Nat → Rat) : List (List Rat) := tabM n n (cA n c)
theorem unit_tab (n i : Nat) : unit n i = tabI n fun k => if k = i then 1 else 0 := rfl
theorem col_unit (n : Nat) (c : Nat → Rat) (i : Nat) (hi : i < n) : rowMul (unit n i) (trans (comp n c) n) n = if i + 1 < n then unit n (i + 1) else tabI n fun k => -c k := by
  unfold comp
  rw [trans_tab, unit_tab, rowMul_tab]
  have e : ∀ k, S n (fun j => (if j = i then (1 : Rat) else 0) * cA n c k j) = cA n c k i := fun k => by
    have : S n (fun j => (if j = i then (1 : Rat) else 0) * cA n c k j) = S n fun j => if j = i then cA n c k j else 0 := S_ext fun j _ => by split <;> grind
    rw [this, S_delta, if_pos hi]
  by_cases h : i + 1 < n
  · rw [if_pos h, unit_tab]
    exact tab_ext fun k hk => by
      rw [e]
      unfold cA
      by_cases h2 : i + 1 = k
      · rw [if_pos h2, if_pos h2.symm]
      · rw [if_neg h2, if_neg (by omega), if_neg (Ne.symm h2)]
  · rw [if_neg h]
    exact tab_ext fun k hk => by
      rw [e]
      unfold cA
      rw [if_neg (by omega), if_pos (by omega)]

/-! ### factors -/
theorem facs_last (n : Nat) (x : Nat → Rat) : facs (ones n) (eEs n n) (tabI n x) = tabI n x ∧ byOf (ones n) (eEs n n) (tabI n x) ≠ 0 := by
  have hw : wholes (tabI n x) = tabI n fun i => (wholes (tabI n x)).getD i 0 := by
    have := of_list (wholes (tabI n x))
    rwa [show (wholes (tabI n x)).length = n by rw [wholes_len, tab_len]] at this
  generalize hm : (fun i => (wholes (tabI n x)).getD i 0) = m at hw
  have hmade : madeOf (ones n) (eEs n n) (wholes (tabI n x)) = tabI n (fun i => -m i) ++ [1] := by rw [hw]; exact made_last n m
  have hL := lcms_pos (tabI n x)
  have hby : byOf (ones n) (eEs n n) (tabI n x) = -((SC.lcms (tabI n x) : Nat) : Int) := by
    unfold byOf
    rw [hmade]
    simp
  refine ⟨?_, by rw [hby]; omega⟩
  unfold facs
  rw [hby, hmade, List.dropLast_concat]
  have ho : ones n = tabI n fun _ => 1 := list_ext (by simp [ones]) fun i hi => by unfold ones; rw [List.getElem?_replicate, if_pos hi]
  rw [ho, List.zip, tab_zip]
  show (List.map _ (List.map _ _)) = _
  rw [List.map_map]
  show tabI n _ = tabI n x
  exact tab_ext fun i hi => by
    show ((((-m i) * 1 : Int)) : Rat) / ((-((SC.lcms (tabI n x) : Nat) : Int) : Int) : Rat) = x i
    have g := wholes_get (tabI n x) i
    rw [show (wholes (tabI n x)).getD i 0 = m i from congrFun hm i, tabR_getD, if_pos hi] at g
    have n1 : (((SC.lcms (tabI n x) : Nat) : Int) : Rat) ≠ 0 := SC.lcms_ne _
    have e1 : (((-m i) * 1 : Int) : Rat) = -((m i : Int) : Rat) := by push_cast; grind
    have e2 : ((-((SC.lcms (tabI n x) : Nat) : Int) : Int) : Rat) = -(((SC.lcms (tabI n x) : Nat) : Int) : Rat) := by push_cast; rfl
    rw [e1, e2, g]
    grind
end K46
end
section
set_option Elab.async false
set_option linter.all false
set_option maxRecDepth 100000
set_option maxHeartbeats 2000000
set_option exponentiation.threshold 20000
namespace K46
open PySem PySem.Spec L2 Pu RB RW
open SC (lcms wholes sumR lcm_fold_least lcms_pos)
/-- a companion of bounded size -/
structure CompOk (n : Nat) (c : Nat → Rat) (E N : Nat) : Prop where
  n1 : 1 ≤ n
  n2 : n ≤ 1000
  e0 : 0 < E
  e1 : E < 2 ^ 1000
  m1 : 1 ≤ N
  m2 : N ≤ 1000
  ok : Nice E N (tabI n c)
theorem mem_tab {α : Type} {N : Nat} {g : Nat → α} {x : α} (h : x ∈ tabI N g) : ∃ i, i < N ∧ x = g i := by
  unfold tabI at h
  obtain ⟨i, hi, rfl⟩ := List.mem_map.mp h
  exact ⟨i, by simpa using hi, rfl⟩
theorem tab_mem {α : Type} {N i : Nat} {g : Nat → α} (h : i < N) : g i ∈ tabI N g := List.mem_map.mpr ⟨i, by simpa using h, rfl⟩
theorem nice01 {E N : Nat} (hN : 1 ≤ N) {r : Rat} (h : r = 0 ∨ r = 1) : r.den ∣ E ∧ r.num.natAbs < 2 ^ N := by
  have p := Nat.one_lt_two_pow (n := N) (by omega)
  rcases h with rfl | rfl
  · exact ⟨Nat.one_dvd _, Nat.lt_of_le_of_lt (Nat.zero_le _) p⟩
  · exact ⟨Nat.one_dvd _, p⟩
variable {n : Nat} {c : Nat → Rat} {E N : Nat}
theorem CompOk.neg (h : CompOk n c E N) : Nice E N (tabI n fun k => -c k) := ⟨fun r hr => by
  obtain ⟨i, hi, rfl⟩ := mem_tab hr
  show (c i).den ∣ E
  exact h.ok.den _ (tab_mem (g := c) hi), fun r hr => by
  obtain ⟨i, hi, rfl⟩ := mem_tab hr
  have := h.ok.num _ (tab_mem (g := c) hi)
  show (-(c i).num).natAbs < 2 ^ N
  rw [Int.natAbs_neg]
  exact this⟩
theorem CompOk.unit (h : CompOk n c E N) (i : Nat) : Nice E N (unit n i) := ⟨fun r hr => by
  obtain ⟨k, hk, rfl⟩ := mem_tab (g := fun k => if k = i then (1 : Rat) else 0) hr
  exact (nice01 h.m1 (by split <;> simp)).1, fun r hr => by
  obtain ⟨k, hk, rfl⟩ := mem_tab (g := fun k => if k = i then (1 : Rat) else 0) hr
  exact (nice01 (E := E) h.m1 (by split <;> simp)).2⟩
theorem CompOk.cell (h : CompOk n c E N) (k j : Nat) (hk : k < n) : (cA n c k j).den ∣ E ∧ (cA n c k j).num.natAbs < 2 ^ N := by
  unfold cA
  split
  · exact nice01 h.m1 (.inr rfl)
  · split
    · exact ⟨h.neg.den _ (tab_mem (g := fun k => -c k) hk), h.neg.num _ (tab_mem (g := fun k => -c k) hk)⟩
    · exact nice01 h.m1 (.inl rfl)
theorem CompOk.rows (h : CompOk n c E N) : ∀ t ∈ comp n c, t.length = n ∧ Nice E N t := fun t ht => by
  obtain ⟨k, hk, rfl⟩ := mem_tab ht
  refine ⟨tab_len, fun r hr => ?_, fun r hr => ?_⟩
  · obtain ⟨j, _, rfl⟩ := mem_tab hr
    exact (h.cell k j hk).1
  · obtain ⟨j, _, rfl⟩ := mem_tab hr
    exact (h.cell k j hk).2
theorem CompOk.cols (h : CompOk n c E N) : ∀ t ∈ trans (comp n c) n, t.length = n ∧ Nice E N t := fun t ht => by
  unfold comp at ht
  rw [trans_tab] at ht
  obtain ⟨j, hj, rfl⟩ := mem_tab ht
  refine ⟨tab_len, fun r hr => ?_, fun r hr => ?_⟩
  · obtain ⟨k, hk, rfl⟩ := mem_tab hr
    exact (h.cell k j hk).1
  · obtain ⟨k, hk, rfl⟩ := mem_tab hr
    exact (h.cell k j hk).2
theorem p19 {E : Nat} (h : E < 2 ^ 1000) : E < 2 ^ 1900 := Nat.lt_of_lt_of_le h (Nat.pow_le_pow_right (by decide) (by decide))
theorem p40 {E : Nat} (h : E < 2 ^ 1000) : E < 2 ^ 4000 := Nat.lt_of_lt_of_le h (Nat.pow_le_pow_right (by decide) (by decide))
theorem CompOk.col (h : CompOk n c E N) {rs : List Rat} (hl : rs.length = n) (hr : Nice E N rs) : cColLed [tab (comp n c), row rs] (row (rowMul rs (trans (comp n c) n) n)) := by
  have l1 : (comp n c).length = n := tab_len
  have l2 : (trans (comp n c) n).length = n := by unfold trans; simp
  have := h.n1
  have := h.n2
  refine ⟨rs, comp n c, n, rfl, by omega, by omega, by omega, fun t ht => (h.rows t ht).1, ?_, by rw [l1]⟩
  rw [l1]
  exact rowOk_of h.e0 (p19 h.e1) (by have := h.m2; omega) (by omega) (by omega) (by omega) (by omega) hr h.cols
/-- the columns in turn -/
def kry (n : Nat) (c : Nat → Rat) (j : Nat) : List Rat := if j < n then unit n j else tabI n fun k => -c k
theorem CompOk.kry (h : CompOk n c E N) (j : Nat) : (kry n c j).length = n ∧ Nice E N (kry n c j) := by
  unfold K46.kry
  split
  · exact ⟨tab_len, h.unit j⟩
  · exact ⟨tab_len, h.neg⟩
theorem kry_next (h : j < n) : rowMul (kry n c j) (trans (comp n c) n) n = kry n c (j + 1) := by
  unfold kry
  rw [if_pos h, col_unit n c j h]
theorem CompOk.over (h : CompOk n c E N) {rs : List Rat} (hl : rs.length = n) (hr : Nice E N rs) : Over E rs := hr.over h.e0 (p40 h.e1) (by have := h.m2; omega) (by have := h.n2; omega)
theorem CompOk.last (h : CompOk n c E N) : LedOk (ones n) (eEs n n) (wholes (tabI n fun k => -c k)) := by
  have hl : (wholes (tabI n fun k => -c k)).length = n := by rw [wholes_len, tab_len]
  have e := of_list (wholes (tabI n fun k => -c k))
  rw [hl] at e
  rw [e]
  refine ledOk_last n _ h.n2 fun i hi => ?_
  have hx : (wholes (tabI n fun k => -c k)).getD i 0 ∈ wholes (tabI n fun k => -c k) := by
    rw [List.getD_eq_getElem?_getD, List.getElem?_eq_getElem (by omega)]
    exact List.getElem_mem (by omega)
  generalize (wholes (tabI n fun k => -c k)).getD i 0 = y at hx
  unfold wholes at hx
  obtain ⟨r, hr, rfl⟩ := List.mem_map.mp hx
  rw [Int.natAbs_mul]
  have q1 : r.num.natAbs < 2 ^ 1000 := Nat.lt_of_lt_of_le (h.neg.num r hr) (Nat.pow_le_pow_right (by decide) h.m2)
  have q2 : (SC.lcms (tabI n fun k => -c k) / r.den) < 2 ^ 1000 := Nat.lt_of_le_of_lt (Nat.div_le_self _ _) (Nat.lt_of_le_of_lt (Nat.le_of_dvd h.e0 h.neg.lcms) h.e1)
  have q3 := Nat.mul_lt_mul'' q1 q2
  rw [← Nat.pow_add] at q3
  exact Nat.lt_of_lt_of_le q3 (Nat.pow_le_pow_right (by decide) (by decide))
theorem left0 (n : Nat) (x : Nat → Rat) : ∀ y ∈ leftOf (ones n) (eEs n n) (wholes (tabI n x)), y = 0 := by
  have hl : (wholes (tabI n x)).length = n := by rw [wholes_len, tab_len]
  have e := of_list (wholes (tabI n x))
  rw [hl] at e
  rw [e]
  exact left_last n _
theorem ones_snoc (j : Nat) : ones j ++ [1] = ones (j + 1) := by unfold ones; rw [List.replicate_succ']
theorem eEs_snoc (n j : Nat) : eEs n j ++ [(j, eE n j)] = eEs n (j + 1) := tab_snoc
section
variable {P : Program} {w : World} {K : PySem.W.Frag} {mg : Str → Option Value} {base : Heap} {f : Addr} {fd : FuncData} {C : Addr}
/-- the class, its methods kept -/
structure Bas (P : Program) (w : World) (K : PySem.W.Frag) (mg : Str → Option Value) (base : Heap) (C : Addr) : Prop where
  cl : Cl K C
  make : ∃ f fd, Mk K C f ∧ FnOk P w K mg base CX0 1 f fd ["self"] (spInit C) ∧ Binds K fd ["self"] []
  nm : mg "RowBasis" = some (.ref C)
  put : Dm P w K mg base C 3 "put" (spO K (cPut K C))
  fac : Dm P w K mg base C 3 "factors" (spO K (cFactors K C))
/-! columns_led -/
abbrev s20 : Stmt := top 20
abbrev n20 : List Str := ["table", "column", "basis", "found", "here"]
theorem sc20 : FnScope n20 ["table", "column"] (defScope s20) := ⟨rfl, rfl, rfl, by decide +kernel, rfl, by decide +kernel, by decide +kernel⟩
def cColumns : List PyData → PyData → Prop := fun ds d => ∃ n c E N, ds = [tab (comp n c), row (unit n 0)] ∧ CompOk n c E N ∧ d = .tuple [.list ((units n).map row), row (tabI n fun k => -c k)]
theorem sr_openB {X : Cx} {env : List Sv} {sts : List Stmt} {Q : List Sv → Oc → Prop} {B : List Int} {E : List (Nat × List Int)} (i : Nat) (hi : env[i]? = some (.own (basO X.K C B E))) (hr : ∀ p dx lb le, SR X (env.set i (.own (basA X.K C p dx lb le B E))) sts Q) : SR X env sts Q := sr_ghost fun σ H0 H F S => by
  obtain ⟨v, hv, p, dx, lb, le, hp⟩ := S.ok i _ hi
  refine ⟨_, H0, F, S.recast hi (Ψ := basA X.K C p dx lb le B E) fun w hw _ => ?_, .refl, hr p dx lb le⟩
  rw [hv] at hw
  cases hw
  exact hp
theorem ok_columns_led (F : Fun K "columns_led" "columns_led" s20 f fd) (T : Txt K mg) (D17 : DP P w K mg base 3 "column_led" cColLed) (Bs : Bas P w K mg base C) : FO P w K mg base 4 f fd ["table", "column"] cColumns := by
  refine fn_pure F sc20 (fun ds d ⟨n, c, E, N, h, _⟩ => by rw [h]; rfl) fun cdv A outer s H E' hr ds d ⟨n, c, E, N, hds, hC, hd⟩ => ?_
  subst hds hd
  have nd := sc20.nd
  have hr2 : Room 2 _ := hr.mono (by decide)
  obtain ⟨fi, fdi, M, FI, bI⟩ := Bs.make
  refine sr_par3 (i := 2) (j := 3) (l := 4) rfl nd rfl rfl rfl (by decide) (by decide) (by decide) rfl rfl rfl (egs_cons (eg_make Bs.cl M FI bI hr2 Bs.nm) (egs_cons (EL.eg (el_lst ea_nil)) (egs_cons (EV.eg (v 1)) egs_nil))) ?_
  refine sr_openB 2 rfl fun p dx lb le => sr_open 3 rfl fun l => ?_
  refine sr_while (fun m e => ∃ j, m = n - j ∧ j ≤ n ∧ e = [.dat (tab (comp n c)), .dat (row (unit n 0)), .own (basA K C p dx lb le (ones j) (eEs n j)), .own (lstA K l ((tabI j (unit n)).map row)), .dat (row (kry n c j))]) PassesOwn.never n ⟨0, rfl, Nat.zero_le _, ?_⟩ ?_
  · have : kry n c 0 = unit n 0 := by unfold kry; rw [if_pos (show 0 < n from hC.n1)]
    rw [this]
    rfl
  rintro m e ⟨j, rfl, hj, rfl⟩
  have hk := hC.kry j
  by_cases hlt : j < n
  · have hkj : kry n c j = unit n j := by unfold kry; rw [if_pos hlt]
    refine ⟨_, _, _, et_val (ev_meth (i := 2) (B' := ones (j + 1)) (E' := eEs n (j + 1)) Bs.cl Bs.put hr rfl (Or.inl rfl) rfl (ea1 (v 4)) ⟨p, dx, lb, le, ones j, eEs n j, row (kry n c j), kry n c j, E, rfl, rfl, .t _, hC.over hk.1 hk.2, ?_, ?_, .inr ⟨j, ?_, rfl, ?_⟩⟩), fun _ => ?_, nofun⟩
    · rw [hkj, wholes_unit]; exact ledOk_unit n j hlt hC.n2
    · show (eEs n j).length ≤ 100000
      unfold eEs; rw [tab_len]; have := hC.n2; omega
    · rw [hkj, wholes_unit]; exact first_unit n j hlt
    · rw [hkj, wholes_unit, led_unit_all n j hlt, lcms_one den_unit, eEs_snoc]
      have : ones j ++ [((1 : Nat) : Int)] = ones (j + 1) := ones_snoc j
      rw [this]
      rfl
    refine ap 3 (v 4) ?_ (as 4 (call2 D17 hr (v 0) (v 4) (hC.col hk.1 hk.2)) (sr_nil ⟨n - (j + 1), by omega, j + 1, rfl, hlt, ?_⟩))
    · rw [List.length_map, tab_len]
      exact Nat.lt_of_le_of_lt (show j ≤ 1000 by have := hC.n2; omega) (by decide)
    · rw [kry_next hlt, ← tab_snoc, List.map_append, hkj]
      rfl
  · have hjn : j = n := by omega
    subst hjn
    have hkj : kry j c j = tabI j fun k => -c k := by unfold kry; rw [if_neg (by omega)]
    rw [hkj] at hk ⊢
    have hO := hC.over hk.1 hk.2
    have hf := facs_last j (fun k => -c k)
    refine ⟨_, _, _, et_val (ev_meth (i := 2) (B' := ones j) (E' := eEs j j) Bs.cl Bs.put hr rfl (Or.inl rfl) rfl (ea1 (v 4)) ⟨p, dx, lb, le, ones j, eEs j j, row (tabI j fun k => -c k), tabI j fun k => -c k, E, rfl, rfl, .t _, hO, hC.last, ?_, .inl ⟨left0 _ _, rfl, rfl⟩⟩), nofun, fun _ => ?_⟩
    · show (eEs j j).length ≤ 100000
      unfold eEs; rw [tab_len]; have := hC.n2; omega
    refine sr_freeze 3 rfl (sr_ret (ev_tup (ea2 (v 3) (ev_meth (i := 2) (B' := ones j) (E' := eEs j j) Bs.cl Bs.fac hr rfl (Or.inl rfl) rfl (ea1 (v 4)) ⟨p, dx, lb, le, ones j, eEs j j, row (tabI j fun k => -c k), tabI j fun k => -c k, E, rfl, rfl, .t _, hO, hC.last, left0 _ _, hf.2, ?_, rfl, rfl⟩))) (qr ?_))
    · intro x hx
      rw [(List.mem_replicate.mp hx).2]
      exact Nat.one_lt_two_pow (by decide)
    · rw [hf.1]
      rfl
/-! relation_told -/
abbrev s21 : Stmt := top 21
abbrev n21 : List Str := ["table", "column", "found", "factors", "one"]
theorem sc21 : FnScope n21 ["table", "column"] (defScope s21) := ⟨rfl, rfl, rfl, by decide +kernel, rfl, by decide +kernel, by decide +kernel⟩
def cTold : List PyData → PyData → Prop := fun ds d => ∃ n c E N, ds = [tab (comp n c), row (unit n 0)] ∧ CompOk n c E N ∧ d = row (tabI n c ++ [1])
theorem sm_less : Sm 4000 (-1) := ⟨Nat.one_lt_two_pow (by decide), Nat.one_lt_two_pow (by decide)⟩
theorem ok_relation_told (F : Fun K "relation_told" "relation_told" s21 f fd) (T : Txt K mg) (D8 : DP P w K mg base 2 "ratio_product" cProd) (D20 : DP P w K mg base 4 "columns_led" cColumns) : FO P w K mg base 5 f fd ["table", "column"] cTold := by
  refine fn_pure F sc21 (fun ds d ⟨n, c, E, N, h, _⟩ => by rw [h]; rfl) fun cdv A outer s H E' hr ds d ⟨n, c, E, N, hds, hC, hd⟩ => ?_
  subst hds hd
  have nd := sc21.nd
  have hr2 : Room 2 _ := hr.mono (by decide)
  refine sr_tup (t := .t2 (.nm 2) (.nm 3)) (call2 D20 hr (v 0) (v 1) ⟨n, c, E, N, rfl, hC, rfl⟩) (pt2 (pn 2) (pn 3)) rfl ?_
  have hn := hC.n2
  refine sr_ret (ev_tup (ea_star (EL.ev (LC.l (lc n21 (defScope s21) [("one", 4)] (.nm 4) (tabI n fun k => -c k) rat (fun r => rat (-1 * r)) (fun r => [.dat (tab (comp n c)), .dat (row (unit n 0)), .dat (.list ((units n).map row)), .dat (row (tabI n fun k => -c k)), .dat (rat r)])
    (iv_tup (v 3)) (room (by rw [tab_len]; omega)) (fun _ => pn 4) fun r hr' b => ?_))) (.l _) (ea1 (ev_globE T.one))) ?_) (qr ?_)
  · exact call2 D8 hr2 (ev_globE T.less) (v 4) ⟨_, _, rfl, sm_less, hC.neg.sm hC.e0 (p40 hC.e1) (by have := hC.m2; omega) r hr', rfl⟩
  · rw [List.length_append, List.length_map, tab_len]
    exact room (by simp; omega)
  · unfold row tabI
    rw [List.map_append, List.map_map, List.map_map]
    congr 2
    apply List.map_congr_left
    intro k _
    show rat (-1 * -c k) = rat (c k)
    congr 1
    grind
end
end K46
end
section
set_option Elab.async false
set_option linter.all false
set_option maxRecDepth 100000
set_option maxHeartbeats 2000000
set_option exponentiation.threshold 20000
namespace K46
open PySem PySem.Spec L2 Pu RB RW
section
variable {P : Program} {w : World} {K : PySem.W.Frag} {mg : Str → Option Value} {base : Heap} {f : Addr} {fd : FuncData} {C : Addr}
/-! _law_low -/
abbrev s31 : Stmt := top 31
abbrev n31 : List Str := ["top", "bottom", "sign", "one", "other"]
theorem sc31 : FnScope n31 ["top", "bottom"] (defScope s31) := ⟨rfl, rfl, rfl, by decide +kernel, rfl, by decide +kernel, by decide +kernel⟩
def cLow : List PyData → PyData → Prop := fun ds d => ∃ t b : Int, ds = [.int t, .int b] ∧ b ≠ 0 ∧ b.natAbs < 2 ^ 9000 ∧ t.natAbs < 2 ^ 9000 ∧ d = rat ((t : Rat) / (b : Rat))
theorem ok_low (F : Fun K "_law_low" "_law_low" s31 f fd) (T : Txt K mg) : FO P w K mg base 1 f fd ["top", "bottom"] cLow := by
  refine fn_pure F sc31 (fun ds d ⟨t, b, h, _⟩ => by rw [h]; rfl) fun cdv A outer s H E' hr ds d ⟨t, b, hds, h0, hb, ht, hd⟩ => ?_
  subst hds hd
  have nd := sc31.nd
  refine sr_par (i := 3) (j := 4) rfl nd rfl rfl (by decide) rfl rfl (egs_cons (EV.eg (ev_abs T.abs (v 0))) (egs_cons (EV.eg (ev_abs T.abs (v 1))) egs_nil)) ?_
  refine sr_while (fun m e => ∃ x : Nat, e = [.dat (.int t), .dat (.int b), .non, .dat (.int (x : Nat)), .dat (.int (m : Nat))] ∧ Nat.gcd x m = Nat.gcd t.natAbs b.natAbs) PassesOwn.never b.natAbs ⟨t.natAbs, rfl, rfl⟩ ?_
  rintro m e ⟨x, rfl, hg⟩
  refine ⟨_, _, _, et_gt (v 4) ev_int, fun h => ?_, fun h => ?_⟩
  · have hm : 0 < m := by
      have : (0 : Int) < (m : Int) := by simpa using h
      omega
    refine sr_par (i := 3) (j := 4) rfl nd rfl rfl (by decide) rfl rfl (egs_cons (EV.eg (v 4)) (egs_cons (EV.eg (ev_mod (ev_int1 T.int (v 3)) (v 4) (by omega))) egs_nil)) (sr_nil ⟨x % m, Nat.mod_lt _ hm, m, ?_, ?_⟩)
    · have : ((x : Int) % (m : Int)) = ((x % m : Nat) : Int) := rfl
      rw [this]
      rfl
    · rw [← hg, Nat.gcd_comm x m, Nat.gcd_rec m x, Nat.gcd_comm]
  · have hm : m = 0 := by
      have : ¬ (0 : Int) < (m : Int) := by simpa using h
      omega
    subst hm
    rw [Nat.gcd_zero_right] at hg
    have gp : 0 < Nat.gcd t.natAbs b.natAbs := gcd_pos h0
    have gl : Nat.gcd t.natAbs b.natAbs < 2 ^ 9000 := Nat.lt_of_le_of_lt (Nat.gcd_le_right _ (by omega)) hb
    have hcd : ∀ y, CDivA y ((x : Nat) : Int) := fun y => ⟨by omega, by rw [hg]; exact log_lt gl (by decide)⟩
    refine as 2 (d := .int (if 0 < b then 1 else -1)) (ev_ifx (et_gt (v 1) ev_int) (fun h => EV.to ev_int (by rw [if_pos (by simpa using h)])) (fun h => EV.to (ev_neg ev_int) (by rw [if_neg (by simpa using h)]))) ?_
    have s1 : ((if 0 < b then (1 : Int) else -1)).natAbs < 2 ^ 9000 := by
      have := Nat.one_lt_two_pow (n := 9000) (by decide)
      split <;> exact this
    refine sr_ret (ev_tup (ea2 (ev_fdiv (ev_mul (v 2) (v 0) (mulW s1 ht)) (v 3) (hcd _)) (ev_fdiv (ev_mul (v 2) (v 1) (mulW s1 hb)) (v 3) (hcd _)))) (qr ?_)
    rw [← frac h0, hg]
    unfold RB.part
    by_cases hp : 0 < b
    · rw [if_pos hp, if_pos (decide_eq_true hp), Int.one_mul, Int.one_mul]
    · rw [if_neg hp, if_neg (by simpa using hp)]
      have e : ∀ y g : Int, (-1 * y).fdiv g = y.fdiv (-g) := fun y g => by
        rw [← Int.neg_fdiv_neg y (-g), Int.neg_neg, Int.neg_one_mul]
      rw [e, e]
/-! _law_add, _law_times, _law_less -/
abbrev s32 : Stmt := top 32
theorem sc32 : FnScope ["one", "other"] ["one", "other"] (defScope s32) := ⟨rfl, rfl, rfl, by decide +kernel, rfl, by decide +kernel, by decide +kernel⟩
theorem add_lt {a b : Rat} (ha : Sm 4000 a) (hb : Sm 4000 b) : (a.num * (b.den : Int) + b.num * (a.den : Int)).natAbs < 2 ^ 9000 := by
  have h1 := Nat.mul_lt_mul'' ha.1 hb.2
  have h2 := Nat.mul_lt_mul'' hb.1 ha.2
  rw [← Nat.pow_add] at h1 h2
  have e1 : (a.num * (b.den : Int)).natAbs = a.num.natAbs * b.den := by rw [Int.natAbs_mul]; rfl
  have e2 : (b.num * (a.den : Int)).natAbs = b.num.natAbs * a.den := by rw [Int.natAbs_mul]; rfl
  have e3 := Int.natAbs_add_le (a.num * (b.den : Int)) (b.num * (a.den : Int))
  rw [e1, e2] at e3
  have e4 : 2 ^ (4000 + 4000) + 2 ^ (4000 + 4000) ≤ 2 ^ 9000 := by
    rw [← Nat.two_mul, ← Nat.pow_succ']
    exact Nat.pow_le_pow_right (by decide) (by decide)
  exact Nat.lt_of_le_of_lt e3 (Nat.lt_of_lt_of_le (Nat.add_lt_add h1 h2) e4)
theorem ok_add (F : Fun K "_law_add" "_law_add" s32 f fd) (D31 : DP P w K mg base 1 "_law_low" cLow) : FO P w K mg base 2 f fd ["one", "other"] cSum := by
  refine fn_pure F sc32 (fun ds d ⟨a, b, h, _⟩ => by rw [h]; rfl) fun cdv A outer s H E hr ds d ⟨a, b, hds, ha, hb, hd⟩ => ?_
  subst hds hd
  exact sr_ret (call2 D31 hr (ev_add (ev_mul (ev_ixT (v 0) ev_int rfl) (ev_ixT (v 1) ev_int rfl) (mulW ha.n hb.d)) (ev_mul (ev_ixT (v 1) ev_int rfl) (ev_ixT (v 0) ev_int rfl) (mulW hb.n ha.d)))
    (ev_mul (ev_ixT (v 0) ev_int rfl) (ev_ixT (v 1) ev_int rfl) (mulW ha.d hb.d)) ⟨_, _, rfl, (den_mul ha hb).1, (den_mul ha hb).2, add_lt ha hb, rfl⟩) (qr (by rw [rat_add]))
abbrev s33 : Stmt := top 33
theorem sc33 : FnScope ["one", "other"] ["one", "other"] (defScope s33) := ⟨rfl, rfl, rfl, by decide +kernel, rfl, by decide +kernel, by decide +kernel⟩
theorem num_lt {a b : Rat} (ha : Sm 4000 a) (hb : Sm 4000 b) : (a.num * b.num).natAbs < 2 ^ 9000 := by
  have h1 := Nat.mul_lt_mul'' ha.1 hb.1
  rw [← Nat.pow_add] at h1
  rw [Int.natAbs_mul]
  exact Nat.lt_of_lt_of_le h1 (Nat.pow_le_pow_right (by decide) (by decide))
theorem ok_times (F : Fun K "_law_times" "_law_times" s33 f fd) (D31 : DP P w K mg base 1 "_law_low" cLow) : FO P w K mg base 2 f fd ["one", "other"] cProd := by
  refine fn_pure F sc33 (fun ds d ⟨a, b, h, _⟩ => by rw [h]; rfl) fun cdv A outer s H E hr ds d ⟨a, b, hds, ha, hb, hd⟩ => ?_
  subst hds hd
  exact sr_ret (call2 D31 hr (ev_mul (ev_ixT (v 0) ev_int rfl) (ev_ixT (v 1) ev_int rfl) (mulW ha.n hb.n)) (ev_mul (ev_ixT (v 0) ev_int rfl) (ev_ixT (v 1) ev_int rfl) (mulW ha.d hb.d)) ⟨_, _, rfl, (den_mul ha hb).1, (den_mul ha hb).2, num_lt ha hb, rfl⟩) (qr (by rw [rat_mul]))
abbrev s34 : Stmt := top 34
theorem sc34 : FnScope ["one", "other"] ["one", "other"] (defScope s34) := ⟨rfl, rfl, rfl, by decide +kernel, rfl, by decide +kernel, by decide +kernel⟩
def cLess : List PyData → PyData → Prop := fun ds d => ∃ a b, ds = [rat a, rat b] ∧ Sm 4000 a ∧ Sm 4000 b ∧ d = rat (a - b)
theorem rat_neg (b : Rat) : PyData.tuple [.int (0 - b.num), .int b.den] = rat (-b) := by
  show PyData.tuple [.int (0 - b.num), .int b.den] = PyData.tuple [.int (-b.num), .int b.den]
  rw [Int.zero_sub]
theorem ok_less (F : Fun K "_law_less" "_law_less" s34 f fd) (D32 : DP P w K mg base 2 "_law_add" cSum) : FO P w K mg base 3 f fd ["one", "other"] cLess := by
  refine fn_pure F sc34 (fun ds d ⟨a, b, h, _⟩ => by rw [h]; rfl) fun cdv A outer s H E hr ds d ⟨a, b, hds, ha, hb, hd⟩ => ?_
  subst hds hd
  refine sr_ret (call2 D32 hr (v 0) (EV.to (ev_tup (ea2 (ev_sub ev_int (ev_ixT (v 1) ev_int rfl)) (ev_ixT (v 1) ev_int rfl))) (rat_neg b)) ⟨a, -b, rfl, ha, ?_, rfl⟩) (qr ?_)
  · refine ⟨?_, hb.2⟩
    show (-b.num).natAbs < _
    rw [Int.natAbs_neg]
    exact hb.1
  · congr 1
    grind
/-! _law_companion -/
abbrev s37 : Stmt := top 37
abbrev n37 : List Str := ["numbers", "k", "many", "rows", "row"]
theorem sc37 : FnScope n37 ["numbers"] (defScope s37) := ⟨rfl, rfl, rfl, by decide +kernel, rfl, by decide +kernel, by decide +kernel⟩
def cComp : List PyData → PyData → Prop := fun ds d => ∃ n c E N, ds = [row (tabI n c ++ [1])] ∧ CompOk n c E N ∧ d = tab (comp n c)
theorem rep_tab (n : Nat) : List.replicate n (rat 0) = (tabI n fun _ => (0 : Rat)).map rat := by
  apply List.ext_getElem?
  intro i
  rw [List.getElem?_replicate, List.getElem?_map, tab_get]
  split <;> rfl
theorem set_tab {n i : Nat} {g : Nat → Rat} {x : Rat} (h : i < n) : ((tabI n g).map rat).set i (rat x) = (tabI n fun j => if j = i then x else g j).map rat := by
  apply List.ext_getElem?
  intro j
  rw [List.getElem?_set, List.getElem?_map, List.getElem?_map, tab_get, tab_get]
  by_cases h1 : i = j
  · subst h1
    simp [h, tab_len]
  · rw [if_neg h1, if_neg (Ne.symm h1)]
theorem ix_nat {n i : Nat} (h : i < n) : ixN n ((i : Nat) : Int) = some i := by
  unfold ixN
  rw [if_pos (by omega), if_pos (by omega)]
  rfl
theorem at_tab {n i : Nat} {g : Nat → Rat} (h : i < n) : atI ((tabI n g).map rat) ((i : Nat) : Int) = some (rat (g i)) := atI_at (by rw [tab_get, if_pos h])
theorem ok_companion (F : Fun K "_law_companion" "_law_companion" s37 f fd) (T : Txt K mg) (D34 : DP P w K mg base 3 "_law_less" cLess) : FO P w K mg base 4 f fd ["numbers"] cComp := by
  refine fn_pure F sc37 (fun ds d ⟨n, c, E, N, h, _⟩ => by rw [h]; rfl) fun cdv A outer s H E' hr ds d ⟨n, c, E, N, hds, hC, hd⟩ => ?_
  subst hds hd
  have nd := sc37.nd
  have hn1 := hC.n1
  have hn2 := hC.n2
  have ln : ((tabI n c ++ [1]).map rat).length = n + 1 := by rw [List.length_map, List.length_append, tab_len]; rfl
  refine sr_par (i := 2) (j := 3) (sv := .dat (.int (n : Int))) rfl nd rfl rfl (by decide) rfl rfl (egs_cons (EV.eg (EV.to (ev_sub (ev_lenT T.len (v 0)) ev_int) (by rw [ln]; congr 1; omega))) (egs_cons (EL.eg (el_lst ea_nil)) egs_nil)) ?_
  refine sr_open 3 rfl fun l => ?_
  have hb := rng62 (n := n) (by omega)
  refine fr (.nm 1) (fun k e => e = [.dat (row (tabI n c ++ [1])), .non, .dat (.int (n : Int)), .own (lstA K l ((tabI k fun i => tabI n (cA n c i)).map row)), .non]) (its := (List.range n).map fun k => .int (k : Nat)) (IV.to (iv_range1 T.range (v 2) hb.1 hb.2) (by rw [Int.toNat_natCast])) (pn 1) rfl (fun k d e hd he => ?_) (fun e he => ?_)
  · subst he
    obtain ⟨k', hk, rfl⟩ := map_at hd
    have hkm : k < n := by
      have := (List.getElem?_eq_some_iff.mp hk).1
      simpa using this
    have : k' = k := by
      rw [List.getElem?_range hkm] at hk
      exact (Option.some.inj hk).symm
    subst this
    refine ⟨_, rfl, ?_⟩
    refine asL 4 (EL.to (el_rep (EL.ev (el_lst (ea1 (EV.to (ev_tup (ea2 ev_int ev_int)) (show _ = rat 0 from rfl))))) (v 2) (by omega) (by omega)) (by rw [Int.toNat_natCast, rep_tab])) fun l2 => ?_
    have fin : ∀ g : Nat → Rat, (∀ j, j < n → (if j = n - 1 then g j - c k' else g j) = cA n c k' j) → Sm 4000 (g (n - 1)) → SR (cxOf CX0 P w K mg base n37 "_law_companion" (defScope s37) f cdv A outer s H E').nox [.dat (row (tabI n c ++ [1])), .dat (.int (k' : Nat)), .dat (.int (n : Int)), .own (lstA K l ((tabI k' fun i => tabI n (cA n c i)).map row)), .own (lstA K l2 ((tabI n g).map rat))] (((defBody s37).tail.head?.elim [] fun st => match st with
      | .For _ _ b _ _ => b.drop 2
      | _ => [])) (QL (cxOf CX0 P w K mg base n37 "_law_companion" (defScope s37) f cdv A outer s H E').nox ((defBody s37).drop 2) (QR (tab (comp n c))) fun e => e = [.dat (row (tabI n c ++ [1])), .non, .dat (.int (n : Int)), .own (lstA K l ((tabI (k' + 1) fun i => tabI n (cA n c i)).map row)), .non]) := fun g hg hs => by
      have ck : Sm 4000 (c k') := hC.ok.sm hC.e0 (p40 hC.e1) (by have := hC.m2; omega) _ (tab_mem hkm)
      have e1 : ((n : Int) - 1) = ((n - 1 : Nat) : Int) := by omega
      refine sr_put (i := 4) (k := ((n - 1 : Nat) : Int)) (n := n - 1) (d := rat (g (n - 1) - c k')) rfl (Or.inl rfl) (call2 D34 hr (ev_ixO (i := 4) rfl (Or.inl rfl) rfl (EV.to (ev_sub (v 2) ev_int) (by rw [e1])) (at_tab (by omega))) (ev_ixT (v 0) (v 1) (atI_at (by rw [List.getElem?_append_left (by rw [tab_len]; exact hkm), tab_get, if_pos hkm]))) ⟨_, _, rfl, hs, ck, rfl⟩) rfl (EV.to (ev_sub (v 2) ev_int) (by rw [e1])) (ix_nat (by rw [List.length_map, tab_len]; omega)) ?_
      rw [set_tab (by omega)]
      refine sr_freeze 4 rfl (ap 3 (ev_tupleL T.tuple (v 4)) ?_ (sr_drop 1 (sr_drop 4 (sr_nil ?_))))
      · rw [List.length_map, tab_len]
        exact Nat.lt_of_le_of_lt (show k' ≤ 1000 by omega) (by decide)
      · show _ = _
        rw [← tab_snoc, List.map_append]
        have : (tabI n fun j => if j = n - 1 then g (n - 1) - c k' else g j) = tabI n (cA n c k') := tab_ext fun j hj => by
          rw [← hg j hj]
          by_cases h : j = n - 1
          · subst h; rfl
          · rw [if_neg h, if_neg h]
        rw [this]
        rfl
    refine sr_if (et_gt (v 1) ev_int) (fun h => ?_) (fun h => sr_nil ?_)
    · have h0 : 0 < k' := by
        have : (0 : Int) < (k' : Int) := by simpa using h
        omega
      have e2 : ((k' : Int) - 1) = ((k' - 1 : Nat) : Int) := by omega
      refine sr_put (i := 4) (k := ((k' - 1 : Nat) : Int)) (n := k' - 1) (d := rat 1) rfl (Or.inl rfl) (EV.to (ev_tup (ea2 ev_int ev_int)) rfl) rfl (EV.to (ev_sub (v 1) ev_int) (by rw [e2])) (ix_nat (by rw [List.length_map, tab_len]; omega)) ?_
      rw [set_tab (by omega)]
      refine sr_nil (fin _ (fun j hj => ?_) ?_)
      · unfold cA
        by_cases h1 : j = n - 1
        · rw [if_pos h1, if_neg (by omega), if_neg (by omega), if_pos (by omega)]; grind
        · rw [if_neg h1]
          by_cases h2 : j = k' - 1
          · rw [if_pos h2, if_pos (by omega)]
          · rw [if_neg h2, if_neg (by omega), if_neg (by omega)]
      · rw [if_neg (by omega)]
        exact ⟨Nat.two_pow_pos _, Nat.one_lt_two_pow (by decide)⟩
    · have h0 : k' = 0 := by
        have : ¬ (0 : Int) < (k' : Int) := by simpa using h
        omega
      refine fin _ (fun j hj => ?_) ⟨Nat.two_pow_pos _, Nat.one_lt_two_pow (by decide)⟩
      unfold cA
      by_cases h1 : j = n - 1
      · rw [if_pos h1, if_neg (by omega), if_pos (by omega)]; grind
      · rw [if_neg h1, if_neg (by omega), if_neg (by omega)]
  · subst he
    rw [List.length_map, List.length_range]
    exact sr_freeze 3 rfl (sr_ret (ev_tupleL T.tuple (v 3)) (qr rfl))
end
end K46
end
section
set_option Elab.async false
set_option linter.all false
set_option exponentiation.threshold 20000
/-! sizes of products (plain) -/
namespace K46
open PySem RB
open SC (lcms wholes sumR lcm_fold_least lcms_pos conv ends)
def ab (r : Rat) : Rat := if 0 ≤ r then r else -r
theorem ab_add (a b : Rat) : ab (a + b) ≤ ab a + ab b := by unfold ab; split <;> split <;> split <;> grind
theorem ab_mul (a b : Rat) : ab (a * b) = ab a * ab b := by
  unfold ab
  by_cases ha : 0 ≤ a <;> by_cases hb : 0 ≤ b
  · have : 0 ≤ a * b := Rat.mul_nonneg ha hb
    rw [if_pos ha, if_pos hb, if_pos this]
  · have h2 : 0 ≤ a * -b := Rat.mul_nonneg ha (by grind)
    rw [if_pos ha, if_neg hb]
    by_cases h : 0 ≤ a * b
    · rw [if_pos h]; grind
    · rw [if_neg h]; grind
  · have h2 : 0 ≤ -a * b := Rat.mul_nonneg (by grind) hb
    rw [if_neg ha, if_pos hb]
    by_cases h : 0 ≤ a * b
    · rw [if_pos h]; grind
    · rw [if_neg h]; grind
  · have h2 : 0 ≤ -a * -b := Rat.mul_nonneg (by grind) (by grind)
    rw [if_neg ha, if_neg hb, if_pos (by grind)]
    grind
theorem ab_nonneg (a : Rat) : 0 ≤ ab a := by unfold ab; split <;> grind
theorem ab_int (x : Int) : ab (x : Rat) = ((x.natAbs : Int) : Rat) := by
  unfold ab
  by_cases h : 0 ≤ x
  · have : (x.natAbs : Int) = x := by omega
    rw [if_pos (by exact_mod_cast h), this]
  · have : (x.natAbs : Int) = -x := by omega
    have h2 : ¬ (0 : Rat) ≤ (x : Rat) := by exact_mod_cast h
    rw [if_neg h2, this]
    push_cast
    rfl
def norm1 : List Rat → Rat
  | [] => 0
  | a :: r => ab a + norm1 r
theorem norm_nonneg : ∀ f, 0 ≤ norm1 f
  | [] => Rat.le_refl
  | a :: r => by
    have := norm_nonneg r
    have := ab_nonneg a
    show 0 ≤ ab a + norm1 r
    grind
theorem norm_app : ∀ f g : List Rat, norm1 (f ++ g) = norm1 f + norm1 g
  | [], g => by show norm1 g = 0 + norm1 g; grind
  | a :: r, g => by
    show ab a + norm1 (r ++ g) = (ab a + norm1 r) + norm1 g
    rw [norm_app r g]
    grind
theorem norm_zero : ∀ n, norm1 (List.replicate n 0) = 0
  | 0 => rfl
  | n + 1 => by
    rw [List.replicate_succ]
    show ab 0 + norm1 (List.replicate n 0) = 0
    have : ab 0 = 0 := rfl
    rw [norm_zero n, this]
    grind
theorem norm_scale (a : Rat) : ∀ g : List Rat, norm1 (g.map fun b => a * b) = ab a * norm1 g
  | [] => by show (0 : Rat) = ab a * 0; grind
  | b :: g => by
    show ab (a * b) + norm1 (g.map fun b => a * b) = ab a * (ab b + norm1 g)
    rw [norm_scale a g, ab_mul]
    grind
theorem norm_zip : ∀ f g : List Rat, norm1 (List.zipWith (fun x y => x + y) f g) ≤ norm1 f + norm1 g
  | [], g => by
    have := norm_nonneg g
    show (0 : Rat) ≤ 0 + norm1 g
    grind
  | a :: f, [] => by
    have := norm_nonneg (a :: f)
    show (0 : Rat) ≤ norm1 (a :: f) + 0
    grind
  | a :: f, b :: g => by
    have h1 := norm_zip f g
    have h2 := ab_add a b
    show ab (a + b) + norm1 (List.zipWith (fun x y => x + y) f g) ≤ (ab a + norm1 f) + (ab b + norm1 g)
    grind
theorem norm_conv : ∀ f g : List Rat, norm1 (conv f g) ≤ norm1 f * norm1 g
  | [], g => by
    show norm1 (List.replicate (g.length - 1) 0) ≤ 0 * norm1 g
    rw [norm_zero]
    grind
  | a :: r, g => by
    have h1 := norm_zip ((g.map fun b => a * b) ++ List.replicate r.length 0) (0 :: conv r g)
    have h2 := norm_conv r g
    show norm1 (List.zipWith (fun x y => x + y) ((g.map fun b => a * b) ++ List.replicate r.length 0) (0 :: conv r g)) ≤ (ab a + norm1 r) * norm1 g
    have e1 : norm1 ((g.map fun b => a * b) ++ List.replicate r.length 0) = ab a * norm1 g := by rw [norm_app, norm_scale, norm_zero]; grind
    have e2 : norm1 (0 :: conv r g) = norm1 (conv r g) := by
      show ab 0 + norm1 (conv r g) = _
      have : ab 0 = 0 := rfl
      rw [this]
      grind
    rw [e1, e2] at h1
    grind
/-! bottoms -/
def Den (D : Nat) (f : List Rat) : Prop := ∀ r ∈ f, r.den ∣ D
theorem den_add {D : Nat} {a b : Rat} (h0 : 0 < D) (ha : a.den ∣ D) (hb : b.den ∣ D) : (a + b).den ∣ D := by
  obtain ⟨x, hx⟩ : ∃ x : Int, ((x : Int) : Rat) = ((D : Int) : Rat) * a := ⟨_, SC.whole_cast ha⟩
  obtain ⟨y, hy⟩ : ∃ y : Int, ((y : Int) : Rat) = ((D : Int) : Rat) * b := ⟨_, SC.whole_cast hb⟩
  have n1 : ((D : Int) : Rat) ≠ 0 := by exact_mod_cast (show (D : Int) ≠ 0 by omega)
  have e : a + b = ((x + y : Int) : Rat) / ((D : Int) : Rat) := by
    have : ((x + y : Int) : Rat) = (x : Rat) + (y : Rat) := by push_cast; rfl
    rw [this, hx, hy]
    grind
  rw [e]
  exact (quo_size (x + y) (D : Int) (by omega)).1
theorem den_mul2 {D E : Nat} {a b : Rat} (h0 : 0 < D) (h1 : 0 < E) (ha : a.den ∣ D) (hb : b.den ∣ E) : (a * b).den ∣ D * E := by
  obtain ⟨x, hx⟩ : ∃ x : Int, ((x : Int) : Rat) = ((D : Int) : Rat) * a := ⟨_, SC.whole_cast ha⟩
  obtain ⟨y, hy⟩ : ∃ y : Int, ((y : Int) : Rat) = ((E : Int) : Rat) * b := ⟨_, SC.whole_cast hb⟩
  have n1 : ((D : Int) : Rat) ≠ 0 := by exact_mod_cast (show (D : Int) ≠ 0 by omega)
  have n2 : ((E : Int) : Rat) ≠ 0 := by exact_mod_cast (show (E : Int) ≠ 0 by omega)
  have e : a * b = ((x * y : Int) : Rat) / (((D * E : Nat) : Int) : Rat) := by
    have e1 : ((x * y : Int) : Rat) = (x : Rat) * (y : Rat) := by push_cast; rfl
    have e2 : (((D * E : Nat) : Int) : Rat) = ((D : Int) : Rat) * ((E : Int) : Rat) := by push_cast; rfl
    rw [e1, e2, hx, hy]
    grind
  rw [e]
  have := (quo_size (x * y) ((D * E : Nat) : Int) (by have := Nat.mul_pos h0 h1; omega)).1
  exact this
theorem den_conv {D E : Nat} (h0 : 0 < D) (h1 : 0 < E) : ∀ f g : List Rat, Den D f → Den E g → Den (D * E) (conv f g)
  | [], g, _, _ => fun r hr => by
    rw [(List.mem_replicate.mp hr).2]
    exact Nat.one_dvd _
  | a :: f, g, hf, hg => by
    have ih := den_conv h0 h1 f g (fun r hr => hf r (List.mem_cons_of_mem _ hr)) hg
    intro r hr
    have hr : r ∈ List.zipWith (fun x y => x + y) ((g.map fun b => a * b) ++ List.replicate f.length 0) (0 :: conv f g) := hr
    have ez : List.zipWith (fun x y : Rat => x + y) ((g.map fun b => a * b) ++ List.replicate f.length 0) (0 :: conv f g) = (((g.map fun b => a * b) ++ List.replicate f.length 0).zip (0 :: conv f g)).map fun p : Rat × Rat => p.1 + p.2 := by rw [List.zip, List.map_zipWith]
    rw [ez] at hr
    obtain ⟨p, hp, rfl⟩ := List.mem_map.mp hr
    have m1 := (List.of_mem_zip (show (p.1, p.2) ∈ _ from hp)).1
    have m2 := (List.of_mem_zip (show (p.1, p.2) ∈ _ from hp)).2
    refine den_add (Nat.mul_pos h0 h1) ?_ ?_
    · rcases List.mem_append.mp m1 with m | m
      · obtain ⟨b, hb, e⟩ := List.mem_map.mp m
        rw [← e]
        exact den_mul2 h0 h1 (hf a (by simp)) (hg b hb)
      · rw [(List.mem_replicate.mp m).2]; exact Nat.one_dvd _
    · rcases List.mem_cons.mp m2 with m | m
      · rw [m]; exact Nat.one_dvd _
      · exact ih _ m
structure Nrm (D Z : Nat) (f : List Rat) : Prop where
  pos : 0 < D
  den : Den D f
  nrm : norm1 f * ((D : Int) : Rat) ≤ ((Z : Int) : Rat)
theorem Nrm.conv {D E Y Z : Nat} {f g : List Rat} (hf : Nrm D Y f) (hg : Nrm E Z g) : Nrm (D * E) (Y * Z) (conv f g) where
  pos := Nat.mul_pos hf.pos hg.pos
  den := den_conv hf.pos hg.pos f g hf.den hg.den
  nrm := by
    have h1 := norm_conv f g
    have h2 := hf.nrm
    have h3 := hg.nrm
    have n1 := norm_nonneg f
    have n2 := norm_nonneg g
    have d1 : (0 : Rat) ≤ ((D : Int) : Rat) := by exact_mod_cast Int.natCast_nonneg D
    have d2 : (0 : Rat) ≤ ((E : Int) : Rat) := by exact_mod_cast Int.natCast_nonneg E
    have e1 : (((D * E : Nat) : Int) : Rat) = ((D : Int) : Rat) * ((E : Int) : Rat) := by push_cast; rfl
    have e2 : (((Y * Z : Nat) : Int) : Rat) = ((Y : Int) : Rat) * ((Z : Int) : Rat) := by push_cast; rfl
    rw [e1, e2]
    have a1 : norm1 (SC.conv f g) * (((D : Int) : Rat) * ((E : Int) : Rat)) ≤ norm1 f * norm1 g * (((D : Int) : Rat) * ((E : Int) : Rat)) := Rat.mul_le_mul_of_nonneg_right h1 (Rat.mul_nonneg d1 d2)
    have a2 : norm1 f * ((D : Int) : Rat) * (norm1 g * ((E : Int) : Rat)) ≤ ((Y : Int) : Rat) * (norm1 g * ((E : Int) : Rat)) := Rat.mul_le_mul_of_nonneg_right h2 (Rat.mul_nonneg n2 d2)
    have y0 : (0 : Rat) ≤ ((Y : Int) : Rat) := by exact_mod_cast Int.natCast_nonneg Y
    have a3 : ((Y : Int) : Rat) * (norm1 g * ((E : Int) : Rat)) ≤ ((Y : Int) : Rat) * ((Z : Int) : Rat) := Rat.mul_le_mul_of_nonneg_left h3 y0
    grind
/-- one number of bounded size -/
structure Sz (D Z : Nat) (r : Rat) : Prop where
  den : r.den ∣ D
  le : K46.ab r * ((D : Int) : Rat) ≤ ((Z : Int) : Rat)
theorem norm_mem : ∀ {f : List Rat} {r : Rat}, r ∈ f → ab r ≤ norm1 f
  | a :: f, r, h => by
    have n := norm_nonneg f
    have m := ab_nonneg a
    show K46.ab r ≤ K46.ab a + norm1 f
    rcases List.mem_cons.mp h with rfl | h
    · grind
    · have := norm_mem h; grind
theorem mul_le_D {a b : Rat} {D : Nat} (h : a ≤ b) : a * ((D : Int) : Rat) ≤ b * ((D : Int) : Rat) := Rat.mul_le_mul_of_nonneg_right h (by exact_mod_cast Int.natCast_nonneg D)
theorem Nrm.mem {D Z : Nat} {f : List Rat} (h : Nrm D Z f) {r : Rat} (hr : r ∈ f) : Sz D Z r := ⟨h.den r hr, Rat.le_trans (mul_le_D (norm_mem hr)) h.nrm⟩
theorem Sz.whole {D Z L : Nat} {r : Rat} (h : Sz D Z r) (h0 : 0 < D) (h1 : r.den ∣ L) (h2 : L ≤ D) : (r.num * ((L / r.den : Nat) : Int)).natAbs ≤ Z := by
  have c := SC.whole_cast h1
  have e : ((((r.num * ((L / r.den : Nat) : Int)).natAbs : Nat) : Int) : Rat) = K46.ab (((L : Int) : Rat) * r) := by rw [← c, ab_int]
  have l0 : (0 : Rat) ≤ ((L : Int) : Rat) := by exact_mod_cast Int.natCast_nonneg L
  have e2 : K46.ab (((L : Int) : Rat) * r) = ((L : Int) : Rat) * K46.ab r := by
    rw [ab_mul]
    congr 1
    unfold K46.ab
    rw [if_pos l0]
  have l1 : ((L : Int) : Rat) ≤ ((D : Int) : Rat) := by exact_mod_cast (show (L : Int) ≤ (D : Int) by omega)
  have a1 : ((L : Int) : Rat) * K46.ab r ≤ ((D : Int) : Rat) * K46.ab r := Rat.mul_le_mul_of_nonneg_right l1 (ab_nonneg r)
  have a2 := h.le
  have : ((((r.num * ((L / r.den : Nat) : Int)).natAbs : Nat) : Int) : Rat) ≤ ((Z : Int) : Rat) := by
    rw [e, e2]
    grind
  have : (((r.num * ((L / r.den : Nat) : Int)).natAbs : Nat) : Int) ≤ (Z : Int) := by exact_mod_cast this
  omega
theorem Sz.num {D Z : Nat} {r : Rat} (h : Sz D Z r) (h0 : 0 < D) : r.num.natAbs ≤ Z := by
  have := h.whole h0 (L := r.den) (Nat.dvd_refl _) (Nat.le_of_dvd h0 h.den)
  rwa [Nat.div_self r.den_pos, Int.natCast_one, Int.mul_one] at this
theorem Sz.sm {D Z : Nat} {r : Rat} (h : Sz D Z r) (h0 : 0 < D) (hD : D < 2 ^ 4000) (hZ : Z < 2 ^ 4000) : Sm 4000 r :=
  ⟨Nat.lt_of_le_of_lt (h.num h0) hZ, Nat.lt_of_le_of_lt (Nat.le_of_dvd h0 h.den) hD⟩
theorem Sz.add {D Y Z : Nat} {a b : Rat} (h0 : 0 < D) (ha : Sz D Y a) (hb : Sz D Z b) : Sz D (Y + Z) (a + b) := ⟨den_add h0 ha.den hb.den, by
  have h1 := mul_le_D (D := D) (ab_add a b)
  have h2 := ha.le
  have h3 := hb.le
  have e : (((Y + Z : Nat) : Int) : Rat) = ((Y : Int) : Rat) + ((Z : Int) : Rat) := by push_cast; rfl
  rw [e]
  grind⟩
theorem Sz.zero {D Z : Nat} : Sz D Z (0 : Rat) := ⟨Nat.one_dvd _, by
  have : ab 0 = 0 := rfl
  rw [this]
  have : (0 : Rat) ≤ ((Z : Int) : Rat) := by exact_mod_cast Int.natCast_nonneg Z
  grind⟩
theorem Sz.mul {D E Y Z : Nat} {a b : Rat} (h0 : 0 < D) (h1 : 0 < E) (ha : Sz D Y a) (hb : Sz E Z b) : Sz (D * E) (Y * Z) (a * b) := ⟨den_mul2 h0 h1 ha.den hb.den, by
  have h2 := ha.le
  have h3 := hb.le
  have n2 := ab_nonneg b
  have d2 : (0 : Rat) ≤ ((E : Int) : Rat) := by exact_mod_cast Int.natCast_nonneg E
  have e1 : (((D * E : Nat) : Int) : Rat) = ((D : Int) : Rat) * ((E : Int) : Rat) := by push_cast; rfl
  have e2 : (((Y * Z : Nat) : Int) : Rat) = ((Y : Int) : Rat) * ((Z : Int) : Rat) := by push_cast; rfl
  rw [e1, e2, ab_mul]
  have a2 : K46.ab a * ((D : Int) : Rat) * (K46.ab b * ((E : Int) : Rat)) ≤ ((Y : Int) : Rat) * (K46.ab b * ((E : Int) : Rat)) := Rat.mul_le_mul_of_nonneg_right h2 (Rat.mul_nonneg n2 d2)
  have y0 : (0 : Rat) ≤ ((Y : Int) : Rat) := by exact_mod_cast Int.natCast_nonneg Y
  have a3 : ((Y : Int) : Rat) * (K46.ab b * ((E : Int) : Rat)) ≤ ((Y : Int) : Rat) * ((Z : Int) : Rat) := Rat.mul_le_mul_of_nonneg_left h3 y0
  grind⟩
theorem Sz.up {D Y Z : Nat} {r : Rat} (h : Sz D Y r) (hz : Y ≤ Z) : Sz D Z r := ⟨h.den, Rat.le_trans h.le (by exact_mod_cast (show (Y : Int) ≤ (Z : Int) by omega))⟩
end K46
end
section
set_option Elab.async false
set_option linter.all false
set_option maxRecDepth 100000
set_option maxHeartbeats 2000000
set_option exponentiation.threshold 20000
namespace K46
open PySem PySem.Spec L2 Pu RB RW
open SC (lcms wholes sumR lcm_fold_least lcms_pos conv ends)
theorem S_front (n : Nat) (F : Nat → Rat) : S (n + 1) F = F 0 + S n fun k => F (k + 1) := by
  induction n with
  | zero => rw [S_succ]; show (0 : Rat) + F 0 = F 0 + 0; grind
  | succ n ih => rw [S_succ, ih, S_succ]; grind
def term (f g : List Rat) (i k : Nat) : Rat := if k ≤ i then f.getD k 0 * g.getD (i - k) 0 else 0
theorem conv_get : ∀ (f g : List Rat), g ≠ [] → ∀ i, i < f.length + g.length - 1 → (conv f g)[i]? = some (S f.length (term f g i))
  | [], g, hg, i, hi => by
    show (List.replicate (g.length - 1) (0 : Rat))[i]? = some (S 0 _)
    simp only [List.length_nil] at hi
    rw [List.getElem?_replicate, if_pos (by omega)]
    rfl
  | a :: r, g, hg, i, hi => by
    have hgl := List.length_pos_iff.mpr hg
    simp only [List.length_cons] at hi
    have hcl := SC.conv_length r g hg
    show (List.zipWith (fun x y => x + y) ((g.map fun b => a * b) ++ List.replicate r.length 0) (0 :: conv r g))[i]? = _
    rw [List.getElem?_zipWith]
    have h1 : ((g.map fun b => a * b) ++ List.replicate r.length (0 : Rat))[i]? = some (a * g.getD i 0) := by
      by_cases h : i < g.length
      · rw [List.getElem?_append_left (by simpa using h), List.getElem?_map, getD_some h]
        rfl
      · rw [List.getElem?_append_right (by simp; omega), List.length_map, List.getElem?_replicate, if_pos (by omega)]
        have : g.getD i 0 = 0 := by rw [List.getD_eq_getElem?_getD, List.getElem?_eq_none (by omega)]; rfl
        rw [this]
        congr 1
        grind
    rw [h1, List.length_cons, S_front]
    cases i with
    | zero =>
      have z : S r.length (fun k => term (a :: r) g 0 (k + 1)) = 0 := by
        rw [← S_zero r.length]
        exact S_ext fun k _ => by unfold term; rw [if_neg (by omega)]
      rw [z]
      show some (a * g.getD 0 0 + 0) = some (term (a :: r) g 0 0 + 0)
      rfl
    | succ i =>
      have h2 := conv_get r g hg i (by omega)
      rw [List.getElem?_cons_succ, h2]
      have e : (fun k => term (a :: r) g (i + 1) (k + 1)) = term r g i := by
        funext k
        unfold term
        by_cases h : k ≤ i
        · rw [if_pos h, if_pos (by omega), List.getD_cons_succ]
          congr 2
          omega
        · rw [if_neg h, if_neg (by omega)]
      rw [e]
      rfl
theorem conv_tab (f g : List Rat) (hg : g ≠ []) : conv f g = tabI (f.length + g.length - 1) fun i => S f.length (term f g i) := list_ext (SC.conv_length f g hg) (conv_get f g hg)
theorem enum_rat (l : List Rat) : ((l.map rat).mapIdx fun i x => PyData.tuple [.int (i : Nat), x]) = (l.mapIdx fun i x => (i, x)).map fun q => PyData.tuple [.int (q.1 : Nat), rat q.2] := by
  apply List.ext_getElem?
  intro i
  rw [List.getElem?_mapIdx, List.getElem?_map, List.getElem?_map, List.getElem?_mapIdx]
  cases l[i]? <;> rfl
theorem enum_at {l : List Rat} {k : Nat} {q : Nat × Rat} (h : (l.mapIdx fun i x => (i, x))[k]? = some q) : k < l.length ∧ q = (k, l.getD k 0) := by
  rw [List.getElem?_mapIdx] at h
  cases e : l[k]? with
  | none => rw [e] at h; cases h
  | some x =>
    rw [e] at h
    have : (k, x) = q := Option.some.inj h
    exact ⟨(List.getElem?_eq_some_iff.mp e).1, by rw [← this, List.getD_eq_getElem?_getD, e]; rfl⟩
theorem S_sz {D Z n : Nat} {F : Nat → Rat} (h0 : 0 < D) (h : ∀ k, k < n → Sz D Z (F k)) : Sz D (n * Z) (S n F) := by
  induction n with
  | zero => exact .zero
  | succ n ih =>
    rw [S_succ, Nat.succ_mul]
    exact (ih fun k hk => h k (by omega)).add h0 (h n (by omega))
theorem Nrm.getD {D Z : Nat} {f : List Rat} (h : Nrm D Z f) (k : Nat) : Sz D Z (f.getD k 0) := by
  rw [List.getD_eq_getElem?_getD]
  cases e : f[k]? with
  | none => exact .zero
  | some x => exact h.mem (List.mem_of_getElem? e)
theorem term_sz {D E Y Z : Nat} {f g : List Rat} (hf : Nrm D Y f) (hg : Nrm E Z g) (i k : Nat) : Sz (D * E) (Y * Z) (term f g i k) := by
  unfold term
  split
  · exact (hf.getD k).mul hf.pos hg.pos (hg.getD _)
  · exact .zero
/-- the factors as the law has them -/
def facD (p : List Rat × Str) : PyData := .tuple [row p.1, .str p.2]
def prods (fs : List (List Rat × Str)) : List Rat := fs.foldl (fun a p => conv a p.1) [1]
structure FacsOk (fs : List (List Rat × Str)) : Prop where
  len : fs.length ≤ 4
  ok : ∀ p ∈ fs, p.1 ≠ [] ∧ p.1.length ≤ 3 ∧ Nrm 300 1200 p.1
theorem nrm_one : Nrm 1 1 [1] := ⟨by decide, fun r hr => by
  have : r = 1 := by simpa using hr
  rw [this]; exact Nat.one_dvd _, by decide +kernel⟩
theorem prods_ok {fs : List (List Rat × Str)} (h : ∀ p ∈ fs, p.1 ≠ [] ∧ p.1.length ≤ 3 ∧ Nrm 300 1200 p.1) : ∀ k, k ≤ fs.length → Nrm (300 ^ k) (1200 ^ k) (prods (fs.take k)) ∧ prods (fs.take k) ≠ [] ∧ (prods (fs.take k)).length ≤ 2 * k + 1
  | 0, _ => ⟨nrm_one, by simp [prods], by simp [prods]⟩
  | k + 1, hk => by
    obtain ⟨h1, h2, h3⟩ := prods_ok h k (by omega)
    have hx : fs[k]? = some fs[k] := List.getElem?_eq_getElem (by omega)
    generalize fs[k] = p at hx
    have hp := h p (List.mem_of_getElem? hx)
    have e : prods (fs.take (k + 1)) = conv (prods (fs.take k)) p.1 := by unfold prods; rw [Pu.take_at hx, List.foldl_append]; rfl
    rw [e]
    have hl := SC.conv_length (prods (fs.take k)) p.1 hp.1
    have l1 := List.length_pos_iff.mpr hp.1
    have l2 := List.length_pos_iff.mpr h2
    refine ⟨by rw [Nat.pow_succ, Nat.pow_succ]; exact h1.conv hp.2.2, fun z => ?_, ?_⟩
    · rw [z] at hl
      simp only [List.length_nil] at hl
      omega
    · rw [hl]; have := hp.2.1; omega
section
variable {P : Program} {w : World} {K : PySem.W.Frag} {mg : Str → Option Value} {base : Heap} {f : Addr} {fd : FuncData} {C : Addr}
/-! _law_put_together -/
abbrev s36 : Stmt := top 36
abbrev n36 : List Str := ["factors", "found", "numbers", "word", "late", "k", "one", "j", "other"]
theorem sc36 : FnScope n36 ["factors"] (defScope s36) := ⟨rfl, rfl, rfl, by decide +kernel, rfl, by decide +kernel, by decide +kernel⟩
def cTogether : List PyData → PyData → Prop := fun ds d => ∃ fs, ds = [.list (fs.map facD)] ∧ FacsOk fs ∧ d = row (prods fs)
theorem ok_put_together (F : Fun K "_law_put_together" "_law_put_together" s36 f fd) (T : Txt K mg) (D32 : DP P w K mg base 2 "_law_add" cSum) (D33 : DP P w K mg base 2 "_law_times" cProd) : FO P w K mg base 3 f fd ["factors"] cTogether := by
  refine fn_pure F sc36 (fun ds d ⟨fs, h, _⟩ => by rw [h]; rfl) fun cdv A outer s H E' hr ds d ⟨fs, hds, hF, hd⟩ => ?_
  subst hds hd
  have nd := sc36.nd
  refine as 1 (d := .list ([(1 : Rat)].map rat)) (EL.ev (el_lst (ea1 (EV.to (ev_tup (ea2 ev_int ev_int)) (show _ = rat 1 from rfl))))) ?_
  refine fr (.t2 (.nm 2) (.nm 3)) (fun t e => e = [.dat (.list (fs.map facD)), .dat (.list ((prods (fs.take t)).map rat)), .non, .non, .non, .non, .non, .non, .non]) (iv_list (v 0)) (pt2 (pn 2) (pn 3)) rfl (fun t d e hd he => ?_) (fun e he => ?_)
  · subst he
    obtain ⟨p, hk, rfl⟩ := map_at hd
    have ht := (List.getElem?_eq_some_iff.mp hk).1
    obtain ⟨q1, q2, q3⟩ := hF.ok p (List.mem_of_getElem? hk)
    obtain ⟨h1, h2, h3⟩ := prods_ok hF.ok t (by omega)
    have h4 := hF.len
    have enext : prods (fs.take (t + 1)) = conv (prods (fs.take t)) p.1 := by unfold prods; rw [take_at hk, List.foldl_append]; rfl
    rw [enext]
    generalize prods (fs.take t) = a at h1 h2 h3 ⊢
    obtain ⟨g, wd⟩ := p
    have q1 : g ≠ [] := q1
    have q2 : g.length ≤ 3 := q2
    have q3 : Nrm 300 1200 g := q3
    show ∃ envT, _ ∧ SR _ envT _ (QL _ _ _ fun e => e = [.dat (.list (fs.map facD)), .dat (.list ((conv a g).map rat)), .non, .non, .non, .non, .non, .non, .non])
    have la := List.length_pos_iff.mpr h2
    have lg := List.length_pos_iff.mpr q1
    have D0 : 0 < 300 ^ t * 300 := Nat.mul_pos h1.pos q3.pos
    have Dt : 300 ^ t * 300 < 2 ^ 4000 := by
      have : 300 ^ t ≤ 300 ^ 4 := Nat.pow_le_pow_right (by decide) (by omega)
      exact Nat.lt_of_le_of_lt (Nat.mul_le_mul_right _ this) (Nat.lt_of_lt_of_le (show 300 ^ 4 * 300 < 2 ^ 64 by decide) (Nat.pow_le_pow_right (by decide) (by decide)))
    have Zt : 20 * (1200 ^ t * 1200) < 2 ^ 4000 := by
      have : 1200 ^ t ≤ 1200 ^ 4 := Nat.pow_le_pow_right (by decide) (by omega)
      exact Nat.lt_of_le_of_lt (Nat.mul_le_mul_left _ (Nat.mul_le_mul_right _ this)) (Nat.lt_of_lt_of_le (show 20 * (1200 ^ 4 * 1200) < 2 ^ 64 by decide) (Nat.pow_le_pow_right (by decide) (by decide)))
    have smT : ∀ {x : Rat}, Sz (300 ^ t * 300) (20 * (1200 ^ t * 1200)) x → Sm 4000 x := fun h => h.sm D0 Dt Zt
    have smF : ∀ k, Sm 4000 (a.getD k 0) := fun k => (h1.getD k).sm h1.pos (Nat.lt_of_le_of_lt (Nat.le_mul_of_pos_right _ (by decide)) Dt) (Nat.lt_of_le_of_lt (show 1200 ^ t ≤ 20 * (1200 ^ t * 1200) by have := Nat.one_le_pow t 1200 (by decide); omega) Zt)
    have smG : ∀ k, Sm 4000 (g.getD k 0) := fun k => (q3.getD k).sm q3.pos (Nat.lt_of_lt_of_le (show 300 < 2 ^ 64 by decide) (Nat.pow_le_pow_right (by decide) (by decide))) (Nat.lt_of_lt_of_le (show 1200 < 2 ^ 64 by decide) (Nat.pow_le_pow_right (by decide) (by decide)))
    refine ⟨_, rfl, ?_⟩
    have en : ((((a.map rat).length : Nat) : Int) + (((g.map rat).length : Nat) : Int) - 1) = ((a.length + g.length - 1 : Nat) : Int) := by rw [List.length_map, List.length_map]; omega
    refine asL 4 (EL.to (el_rep (EL.ev (el_lst (ea1 (EV.to (ev_tup (ea2 ev_int ev_int)) (show _ = rat 0 from rfl))))) (ev_sub (ev_add (ev_lenL T.len (v 1)) (ev_lenT (ds := g.map rat) T.len (v 2))) ev_int) (by rw [en]; omega) (by rw [en]; omega)) (by rw [en, Int.toNat_natCast, rep_tab])) fun l => ?_
    generalize hN : a.length + g.length - 1 = n
    refine fr (.t2 (.nm 5) (.nm 6)) (fun k e => e = [.dat (.list (fs.map facD)), .dat (.list (a.map rat)), .dat (row g), .dat (.str wd), .own (lstA K l ((tabI n fun i => S k (term a g i)).map rat)), .non, .non, .non, .non]) (IV.to (iv_enum T.enum (v 1) (.l _)) (enum_rat a)) (pt2 (pn 5) (pn 6)) rfl (fun k d e hd he => ?_) (fun e he => ?_)
    · subst he
      obtain ⟨q, hq, rfl⟩ := map_at hd
      obtain ⟨hka, rfl⟩ := enum_at hq
      refine ⟨_, rfl, ?_⟩
      refine fr (.t2 (.nm 7) (.nm 8)) (fun j e => e = [.dat (.list (fs.map facD)), .dat (.list (a.map rat)), .dat (row g), .dat (.str wd), .own (lstA K l ((tabI n fun i => S k (term a g i) + if k ≤ i ∧ i < k + j then a.getD k 0 * g.getD (i - k) 0 else 0).map rat)), .dat (.int (k : Nat)), .dat (rat (a.getD k 0)), .non, .non]) (IV.to (iv_enum T.enum (v 2) (.t _)) (enum_rat g)) (pt2 (pn 7) (pn 8)) ?_ (fun j d e hd he => ?_) (fun e he => ?_)
      · have : (tabI n fun i => S k (term a g i)) = tabI n fun i => S k (term a g i) + if k ≤ i ∧ i < k + 0 then a.getD k 0 * g.getD (i - k) 0 else 0 := tab_ext fun i _ => by rw [if_neg (by omega)]; grind
        rw [← this]
        rfl
      · subst he
        obtain ⟨q, hq, rfl⟩ := map_at hd
        obtain ⟨hjg, rfl⟩ := enum_at hq
        refine ⟨_, rfl, ?_⟩
        have ekj : ((k : Int) + (j : Int)) = ((k + j : Nat) : Int) := rfl
        have hkj : k + j < n := by omega
        have cur : (S k (term a g (k + j)) + if k ≤ k + j ∧ k + j < k + j then a.getD k 0 * g.getD (k + j - k) 0 else 0) = S k (term a g (k + j)) := by rw [if_neg (by omega)]; grind
        have s1 : Sm 4000 (S k (term a g (k + j))) := smT ((S_sz D0 fun i _ => term_sz h1 q3 (k + j) i).up (Nat.mul_le_mul_right _ (by omega)))
        have s2 : Sm 4000 (a.getD k 0 * g.getD j 0) := smT (((h1.getD k).mul h1.pos q3.pos (q3.getD j)).up (by omega))
        refine sr_put (i := 4) (k := ((k + j : Nat) : Int)) (n := k + j) (d := rat (S k (term a g (k + j)) + a.getD k 0 * g.getD j 0)) rfl (Or.inl rfl) (call2 D32 hr (EV.to (ev_ixO (i := 4) (k := ((k + j : Nat) : Int)) rfl (Or.inl rfl) rfl (EV.to (ev_add (i := (k : Int)) (j := (j : Int)) (v 5) (v 7)) (by rw [ekj])) (at_tab hkj)) (by rw [cur])) (call2 D33 hr (v 6) (v 8) ⟨_, _, rfl, smF k, smG j, rfl⟩) ⟨_, _, rfl, s1, s2, rfl⟩) rfl (EV.to (ev_add (i := (k : Int)) (j := (j : Int)) (v 5) (v 7)) (by rw [ekj])) (ix_nat (by rw [List.length_map, tab_len]; exact hkj)) ?_
        rw [set_tab hkj]
        refine sr_drop 7 (sr_drop 8 (sr_nil ?_))
        show _ = _
        have : (tabI n fun i => if i = k + j then S k (term a g (k + j)) + a.getD k 0 * g.getD j 0 else S k (term a g i) + if k ≤ i ∧ i < k + j then a.getD k 0 * g.getD (i - k) 0 else 0) = tabI n fun i => S k (term a g i) + if k ≤ i ∧ i < k + (j + 1) then a.getD k 0 * g.getD (i - k) 0 else 0 := tab_ext fun i _ => by
          by_cases h : i = k + j
          · subst h
            rw [if_pos rfl, if_pos (by omega), Nat.add_sub_cancel_left]
          · rw [if_neg h]
            by_cases h5 : k ≤ i ∧ i < k + j
            · rw [if_pos h5, if_pos (by omega)]
            · rw [if_neg h5, if_neg (by omega)]
        rw [this]
        rfl
      · subst he
        rw [List.length_map, List.length_mapIdx]
        refine sr_drop 5 (sr_drop 6 (sr_nil ?_))
        show _ = _
        have : (tabI n fun i => S k (term a g i) + if k ≤ i ∧ i < k + g.length then a.getD k 0 * g.getD (i - k) 0 else 0) = tabI n fun i => S (k + 1) (term a g i) := tab_ext fun i _ => by
          rw [S_succ]
          congr 1
          unfold term
          by_cases h : k ≤ i
          · rw [if_pos h]
            by_cases h5 : i < k + g.length
            · rw [if_pos ⟨h, h5⟩]
            · rw [if_neg (by omega)]
              have : g.getD (i - k) 0 = 0 := by rw [List.getD_eq_getElem?_getD, List.getElem?_eq_none (by omega)]; rfl
              rw [this]
              grind
          · rw [if_neg h, if_neg (by omega)]
        rw [this]
        rfl
    · subst he
      rw [List.length_map, List.length_mapIdx]
      refine sr_freeze 4 rfl (as 1 (v 4) (sr_drop 2 (sr_drop 3 (sr_drop 4 (sr_nil ?_)))))
      show _ = _
      rw [conv_tab a g q1, hN]
      rfl
  · subst he
    rw [List.length_map, List.take_length]
    exact sr_ret (ev_tupleL T.tuple (v 1)) (qr rfl)
end
end K46
end
section
set_option Elab.async false
set_option linter.all false
set_option maxRecDepth 100000
set_option maxHeartbeats 2000000
/-! the law's source: a dict of its own -/
namespace SR1
open PySem PySem.Spec L2 Pu
structure Src where
  cells : List Int
  left : Int
  mixed : Int
  turn : Int
def kvs (l : Addr) (s : Src) : List (Key × V) := [(.inr "cells", .ref l), (.inr "left", .int s.left), (.inr "mixed", .int s.mixed), (.inr "turn", .int s.turn)]
theorem n1 : ¬ ((Sum.inr ("cells" : Str) : Key) = .inr "left") := by decide +kernel
theorem n2 : ¬ ((Sum.inr ("cells" : Str) : Key) = .inr "mixed") := by decide +kernel
theorem n3 : ¬ ((Sum.inr ("cells" : Str) : Key) = .inr "turn") := by decide +kernel
theorem n4 : ¬ ((Sum.inr ("left" : Str) : Key) = .inr "mixed") := by decide +kernel
theorem n5 : ¬ ((Sum.inr ("left" : Str) : Key) = .inr "turn") := by decide +kernel
theorem n6 : ¬ ((Sum.inr ("mixed" : Str) : Key) = .inr "turn") := by decide +kernel
theorem g_cells (l : Addr) (s : Src) : valV (kvs l s) (.inr "cells") = some (.ref l) := valV_pos rfl
theorem g_left (l : Addr) (s : Src) : valV (kvs l s) (.inr "left") = some (.int s.left) := (valV_neg n1).trans (valV_pos rfl)
theorem g_mixed (l : Addr) (s : Src) : valV (kvs l s) (.inr "mixed") = some (.int s.mixed) := (valV_neg n2).trans ((valV_neg n4).trans (valV_pos rfl))
theorem g_turn (l : Addr) (s : Src) : valV (kvs l s) (.inr "turn") = some (.int s.turn) := (valV_neg n3).trans ((valV_neg n5).trans ((valV_neg n6).trans (valV_pos rfl)))
theorem p_left (l : Addr) (s : Src) (x : Int) : putK (kvs l s) (.inr "left") (.int x) = kvs l { s with left := x } := by
  unfold putK
  have : ((kvs l s).any fun kv => decide (kv.1 = .inr "left")) = true := by rw [valV_any, g_left]; rfl
  rw [if_pos this]
  simp only [kvs, List.map_cons, List.map_nil, if_neg n1, if_pos rfl, if_neg (Ne.symm n4), if_neg (Ne.symm n5), if_true]
theorem p_mixed (l : Addr) (s : Src) (x : Int) : putK (kvs l s) (.inr "mixed") (.int x) = kvs l { s with mixed := x } := by
  unfold putK
  have : ((kvs l s).any fun kv => decide (kv.1 = .inr "mixed")) = true := by rw [valV_any, g_mixed]; rfl
  rw [if_pos this]
  simp only [kvs, List.map_cons, List.map_nil, if_neg n2, if_pos rfl, if_neg n4, if_neg (Ne.symm n6), if_true]
theorem p_turn (l : Addr) (s : Src) (x : Int) : putK (kvs l s) (.inr "turn") (.int x) = kvs l { s with turn := x } := by
  unfold putK
  have : ((kvs l s).any fun kv => decide (kv.1 = .inr "turn")) = true := by rw [valV_any, g_turn]; rfl
  rw [if_pos this]
  simp only [kvs, List.map_cons, List.map_nil, if_neg n3, if_pos rfl, if_neg n5, if_neg n6, if_true]
def srcA (p l : Addr) (s : Src) : Own where
  P := fun v H0 H F => v = .ref p ∧ F = [p, l] ∧ H p = some (.dK (kvs l s)) ∧ H l = some (.lst (s.cells.map V.int))
  st := fun {v H0 H H0' H' F} h e k => by
    obtain ⟨rfl, rfl, h1, h2⟩ := h
    exact ⟨rfl, rfl, k _ (by simp) _ h1, k _ (by simp) _ h2⟩
def srcO (s : Src) : Own where
  P := fun v H0 H F => ∃ p l, (srcA p l s).P v H0 H F
  st := fun {v H0 H H0' H' F} h e k => by
    obtain ⟨p, l, h⟩ := h
    exact ⟨p, l, (srcA p l s).st h e k⟩
theorem fix {p l : Addr} {s t : Src} : Fix (srcA p l s) (srcA p l t) := ⟨p, fun _ _ _ _ h => h.1, fun _ _ _ _ h => h.1⟩
section
variable {X : Cx} {env env1 : List Sv} {rest : List Stmt} {e : Expr} {p l : Addr} {s : Src} {i : Nat} {x : Str} {np ap pos kp cpos apos tpos pf : Pos} {j : Nat} {Q : List Sv → Oc → Prop} {p1 : Bool} {n : Int}
theorem src_at {σ : L2.St} {H0 H : Hp} {F : Fp} (S : Sl X.K env σ H0 H F) (hi : env[i]? = some (.own (srcA p l s))) : σ[i]? = some (some (.ref p)) ∧ H p = some (.dK (kvs l s)) ∧ H l = some (.lst (s.cells.map V.int)) := by
  obtain ⟨v, hv, rfl, hF, h1, h2⟩ := S.ok i _ hi
  exact ⟨hv, h1, h2⟩
theorem get_of {k : Str} {y : V} {R : V → Hp → Prop} {H : Hp} (hp : H p = some (.dK (kvs l s))) (hk : valV (kvs l s) (.inr k) = some y) (q : R y H) : ∃ a v, V.ref p = .ref a ∧ DGet H a (.str k) (some v) ∧ R v H :=
  ⟨p, y, rfl, by have := DGet.k (k := .inr k) hp; rw [hk] at this; exact this, q⟩
/-- source[k], a number -/
theorem ev_key {k : Str} (hu : X.A.units + 1 < cLine) (hk : valV (kvs l s) (.inr k) = some (.int n)) (hN : X.N[i]? = some x) (hv : Vis X.env.scope x) (hi : env[i]? = some (.own (srcA p l s))) (hs : NoSl (.Constant (.str k) j kp) := by intro _ _; rfl) (hd : (x == ("__debug__" : Str)) = false := by decide) (hcd : (x == ("__classdict__" : Str)) = false := by decide) :
    EV X env (.Subscript (.Name x np) (.Constant (.str k) j kp) pos) (.int n) env true :=
  .of (pe_dget hu (pe_var hN hv hd hcd) pe_str hs) fun σ H0 H F S => by
    obtain ⟨e0, hp, hl⟩ := src_at S hi
    exact ⟨_, e0, get_of hp hk (.mk (.refl S) (.int n))⟩
/-- len(source['cells']) -/
theorem ev_lenC (hu : X.A.units + 1 < cLine) (hm : X.mg "len" = none) (hN : X.N[i]? = some x) (hv : Vis X.env.scope x) (hi : env[i]? = some (.own (srcA p l s))) (hs : NoSl (.Constant (.str "cells") j kp) := by intro _ _; rfl) (hd : (x == ("__debug__" : Str)) = false := by decide) (hcd : (x == ("__classdict__" : Str)) = false := by decide) (hg : Gl X "len" := by rfl)
    (h1 : starEach [.Subscript (.Name x np) (.Constant (.str "cells") j kp) ap] X.env = (false, eval (.Subscript (.Name x np) (.Constant (.str "cells") j kp) ap) X.env) :: starEach [] X.env := by rfl) (hpl : (backTo pos (starEach [] X.env)).any (·.1) = false := by rfl) :
    EV X env (.Call (.Name "len" pf) [.Subscript (.Name x np) (.Constant (.str "cells") j kp) ap] [] pos) (.int (s.cells.length : Int)) env true :=
  .of (pe_callB call_len_seq hg hm PySem.boot_len (pa_cons (pe_dget hu (pe_var hN hv hd hcd) pe_str hs) pa_nil h1) (by decide) (by decide) h1 hpl) fun σ H0 H F S => by
    obtain ⟨e0, hp, hl⟩ := src_at S hi
    refine ⟨_, e0, get_of hp (g_cells l s) ⟨_, _, rfl, .inl (SqL.of hl), ?_⟩⟩
    rw [List.length_map]
    exact .mk (.refl S) (.int _)
theorem Sl.turn {σ : L2.St} {H0 H H' : Hp} {F : Fp} {t : Src} (S : Sl X.K env σ H0 H F) (hi : env[i]? = some (.own (srcA p l s))) (ho : ∀ a, a ≠ p → a ≠ l → H' a = H a) (h1 : H' p = some (.dK (kvs l t))) (h2 : H' l = some (.lst (t.cells.map V.int))) : Sl X.K (env.set i (.own (srcA p l t))) σ H0 H' (setF F i (F i)) ∧ Go H0 H F H0 H' (setF F i (F i)) := by
  obtain ⟨v, hv, rfl, hF, hp, hl⟩ := S.ok i _ hi
  have mp : p ∈ F i := by rw [hF]; simp
  have ml : l ∈ F i := by rw [hF]; simp
  have p0 := (S.out i p mp).1
  have l0 := (S.out i l ml).1
  have no : ∀ a, (∀ k, a ∉ one (F i) k) → a ≠ p ∧ a ≠ l := fun a n => ⟨fun z => n 0 (by unfold one; rw [if_pos rfl, z]; exact mp), fun z => n 0 (by unfold one; rw [if_pos rfl, z]; exact ml)⟩
  refine S.sub (List.getElem?_eq_some_iff.mp hi).1 ⟨.refl _, fun a o h n => ?_, fun a o h n k => ⟨n, k⟩, fun a o h => ?_⟩ (fun a u q => ?_) hv ⟨rfl, hF, h1, h2⟩ fun a m => ⟨(S.out i a m).1, ?_⟩
  · rw [ho a (no a n).1 (no a n).2]; exact h
  · by_cases z : a = p
    · subst z; exact ⟨_, h1⟩
    · by_cases z2 : a = l
      · subst z2; exact ⟨_, h2⟩
      · exact ⟨o, by rw [ho a z z2]; exact h⟩
  · have z : a ≠ p := fun z => by rw [z, p0] at q; cases q
    have z2 : a ≠ l := fun z => by rw [z, l0] at q; cases q
    rw [ho a z z2]
    exact S.ex a u q
  · rw [hF] at m
    simp only [List.mem_cons, List.not_mem_nil, or_false] at m
    rcases m with rfl | rfl
    · exact ⟨_, h1⟩
    · exact ⟨_, h2⟩
theorem Go.same {H0 H H' H02 H2 : Hp} {F F' F2 : Fp} {H0' : Hp} (g : Go H0 H F H0' H' F') (s : ∀ i a, a ∈ F' i → H0' a = none) (g2 : Go H0' H' F' H02 H2 F2) : Go H0 H F H02 H2 F2 := g.trans s g2
/-- source[k] = e -/
theorem sr_key {k : Str} {t : Int → Src} (hu : X.A.units + 1 < cLine) (hput : ∀ y, putK (kvs l s) (.inr k) (.int y) = kvs l (t y)) (hcl : ∀ y, (t y).cells = s.cells) (hN : X.N[i]? = some x) (hv : Vis X.env.scope x) (he : EV X env e (.int n) env1 p1) (hi : env1[i]? = some (.own (srcA p l s))) (hr : SR X (env1.set i (.own (srcA p l (t n)))) rest Q)
    (hd : (x == ("__debug__" : Str)) = false := by decide) (hcd : (x == ("__classdict__" : Str)) = false := by decide) (hs : swapsWith e (some (.Subscript (.Name x np) (.Constant (.str k) j kp) tpos)) pos.line X.env = pure false := by rfl) :
    SR X env (.Assign [.Subscript (.Name x np) (.Constant (.str k) j kp) tpos] e pos :: rest) Q :=
  sr_cons (ps_dput hu (pe_var hN hv hd hcd) pe_str pe_ev hs) hr fun σ H0 H F D S f => tEV.go he S fun u H01 H1 F1 b1 d1 => by
    cases d1
    obtain ⟨e0, hp, hl⟩ := src_at b1.s hi
    have npl : p ≠ l := fun z => by rw [z, hl] at hp; cases hp
    refine ⟨_, e0, p, upd H1 p (.dK (kvs l (t n))), rfl, ?_, ?_⟩
    · have := DPut.k (k := .inr k) (v := .int n) hp (by show 4 < sizeLine; decide)
      rw [hput] at this
      exact this
    · obtain ⟨S2, g2⟩ := Sl.turn (t := t n) b1.s hi (H' := upd H1 p (.dK (kvs l (t n)))) (fun a z _ => upd_ne z) upd_same (by rw [upd_ne npl.symm, hcl]; exact hl)
      exact f _ _ _ _ S2 (b1.g.trans b1.s.goS g2)
/-- source['left'] = source['cells'].pop() -/
theorem sr_pop {c : Int} {cs : List Int} (hu : X.A.units + 1 < cLine) (hN : X.N[i]? = some x) (hv : Vis X.env.scope x) (hi : env[i]? = some (.own (srcA p l s))) (hc : s.cells = cs ++ [c]) (hr : SR X (env.set i (.own (srcA p l { s with cells := cs, left := c }))) rest Q) {j2 : Nat} {np2 kp2 ap2 : Pos}
    (hsl : NoSl (.Constant (.str "cells") j2 kp2) := by intro _ _; rfl) (hd : (x == ("__debug__" : Str)) = false := by decide) (hcd : (x == ("__classdict__" : Str)) = false := by decide)
    (hbase : attributeBase (.Subscript (.Name x np2) (.Constant (.str "cells") j2 kp2) ap2) "pop" X.env (eval (.Subscript (.Name x np2) (.Constant (.str "cells") j2 kp2) ap2) X.env) = eval (.Subscript (.Name x np2) (.Constant (.str "cells") j2 kp2) ap2) X.env := by rfl) (hline : (apos.endLine == cpos.line) = true := by rfl)
    (hs : swapsWith (.Call (.Attribute (.Subscript (.Name x np2) (.Constant (.str "cells") j2 kp2) ap2) "pop" apos) [] [] cpos) (some (.Subscript (.Name x np) (.Constant (.str "left") j kp) tpos)) pos.line X.env = pure false := by rfl) :
    SR X env (.Assign [.Subscript (.Name x np) (.Constant (.str "left") j kp) tpos] (.Call (.Attribute (.Subscript (.Name x np2) (.Constant (.str "cells") j2 kp2) ap2) "pop" apos) [] [] cpos) pos :: rest) Q :=
  sr_cons (ps_dput hu (pe_var hN hv hd hcd) pe_str (pe_bm0 PySem.F.plainAttrs_list PySem.F.slot_list_pop (by rfl) mt_pop (pe_dget hu (pe_var hN hv hd hcd) pe_str hsl) hbase hline) hs) hr fun σ H0 H F D S f => by
    obtain ⟨e0, hp, hl⟩ := src_at S hi
    have npl : p ≠ l := fun z => by rw [z, hl] at hp; cases hp
    have hl2 : H l = some (.lst ((cs.map V.int) ++ [.int c])) := by rw [hl, hc, List.map_append]; rfl
    have hg : DGet H p (.str "cells") (some (.ref l)) := by have := DGet.k (k := .inr "cells") hp; rw [g_cells] at this; exact this
    refine ⟨_, e0, p, .ref l, rfl, hg, .inl ⟨rfl, _, SqL.of hl2⟩, l, _, .int c, rfl, rfl, hl2, by simp, ?_⟩
    rw [List.dropLast_concat]
    refine ⟨_, e0, p, upd (upd H l (.lst (cs.map V.int))) p (.dK (kvs l { s with cells := cs, left := c })), rfl, ?_, ?_⟩
    · have hp2 : (upd H l (.lst (cs.map V.int))) p = some (.dK (kvs l s)) := by rw [upd_ne npl]; exact hp
      have := DPut.k (k := .inr "left") (v := .int c) hp2 (by show 4 < sizeLine; decide)
      rw [p_left] at this
      exact this
    · obtain ⟨S2, g2⟩ := Sl.turn (t := { s with cells := cs, left := c }) S hi (H' := upd (upd H l (.lst (cs.map V.int))) p (.dK (kvs l { s with cells := cs, left := c }))) (fun a z z2 => by rw [upd_ne z, upd_ne z2]) upd_same (by rw [upd_ne npl.symm, upd_same])
      exact f _ _ _ _ S2 g2
theorem put_new {es : List (Key × V)} {k : Key} {v : V} (h : valV es k = none) : putK es k v = es ++ [(k, v)] := by
  unfold putK
  rw [if_neg]
  rw [valV_any, h]
  decide
theorem merge_kvs (l : Addr) (s : Src) : mergeK [] (kvs l s) = kvs l s := by
  unfold mergeK kvs
  rw [List.foldl_cons, List.foldl_cons, List.foldl_cons, List.foldl_cons, List.foldl_nil]
  rw [put_new (es := []) rfl, List.nil_append, put_new ((valV_neg n1).trans rfl), List.singleton_append, put_new ((valV_neg n2).trans ((valV_neg n4).trans rfl)), List.cons_append, List.singleton_append, put_new ((valV_neg n3).trans ((valV_neg n5).trans ((valV_neg n6).trans rfl))), List.cons_append, List.cons_append, List.singleton_append]
/-- {'cells': .., 'left': .., 'mixed': .., 'turn': ..} -/
theorem eg_dict {e1 e2 e3 e4 : Expr} {cs : List Int} {a m t : Int} {j1 j2 j3 j4 : Nat} {q1 q2 q3 q4 : Pos} (h1 : EL X env e1 (cs.map PyData.int) env true) (h2 : EV X env e2 (.int a) env true) (h3 : EV X env e3 (.int m) env true) (h4 : EV X env e4 (.int t) env true) :
    EG X env (.Dict [some (.Constant (.str "cells") j1 q1), some (.Constant (.str "left") j2 q2), some (.Constant (.str "mixed") j3 q3), some (.Constant (.str "turn") j4 q4)] [e1, e2, e3, e4] pos) (.own (srcO ⟨cs, a, m, t⟩)) env true :=
  .of (pe_disp (pps_cons pe_str pe_el (pps_cons pe_str pe_ev (pps_cons pe_str pe_ev (pps_cons pe_str pe_ev pps_nil)))) rfl rfl (by simp) (Nat.le_of_ble_eq_true rfl)) fun σ H0 H F S => by
    intro p hp
    have hF : ∀ j, p ∉ F j := fun j mj => by
      obtain ⟨_, o, e⟩ := S.out j p mj
      rw [hp] at e; cases e
    have b0 := (Bnd.refl S).new (.other S.ex hp (.dK []))
    have hp0 : H0 p = none := same_none S.ex hp
    show tEL X e1 σ (upd H p (.dK [])) _
    refine tEL.go h1 b0.s fun l xs H01 H1 F1 b1 f1 f2 hl nf hd => ?_
    have e1 := (b1.p rfl).1
    subst e1
    have c1 := b0.trans b1
    have x1 := da_ints hd
    subst x1
    have p1 : H1 p = some (.dK []) := (b1.p rfl).2.keep p _ upd_same
    have p01 : H01 p = none := (b1.p rfl).2.apart p _ upd_same hp0
    show tEV X e2 σ H1 _
    refine tEV.go h2 c1.s fun v2 H02 H2 F2 b2 d2 => ?_
    have e2 := (b2.p rfl).1
    subst e2
    cases d2
    show tEV X e3 σ H2 _
    refine tEV.go h3 b2.s fun v3 H03 H3 F3 b3 d3 => ?_
    have e3 := (b3.p rfl).1
    subst e3
    cases d3
    show tEV X e4 σ H3 _
    refine tEV.go h4 b3.s fun v4 H04 H4 F4 b4 d4 => ?_
    have e4 := (b4.p rfl).1
    subst e4
    cases d4
    have c5 := ((c1.trans b2).trans b3).trans b4
    have n234 := ((b2.p rfl).2.trans (b3.p rfl).2).trans (b4.p rfl).2
    have p4 : H4 p = some (.dK []) := n234.keep p _ p1
    have p04 : H04 p = none := n234.apart p _ p1 p01
    have l4 : H4 l = some (.lst (cs.map V.int)) := n234.keep l _ hl
    have l04 : H04 l = none := n234.apart l _ hl f2
    have npl : l ≠ p := fun z => by rw [z, upd_same] at f1; cases f1
    have hHl : H l = none := by rwa [upd_ne npl] at f1
    refine ⟨p4, kvs l ⟨cs, a, m, t⟩, rfl, Nat.le_of_ble_eq_true rfl, ?_⟩
    rw [merge_kvs]
    have c6 := c5.poke (o := .dK (kvs l ⟨cs, a, m, t⟩)) hp p04 p4 hF
    refine ⟨H04, F4, [p, l], c6, ⟨p, l, rfl, rfl, upd_same, by rw [upd_ne npl]; exact l4⟩, fun x mx => ?_⟩
    simp only [List.mem_cons, List.not_mem_nil, or_false] at mx
    rcases mx with z | z
    · rw [z]; exact ⟨hp, p04, ⟨_, upd_same⟩, hF⟩
    · rw [z]; exact ⟨hHl, l04, ⟨_, by rw [upd_ne npl]; exact l4⟩, nf⟩
/-! ### the script -/
def scrA (K : PySem.W.Frag) (a : Addr) (ns : List Int) : Own where
  P := fun v H0 H F => v = .ref a ∧ F = [] ∧ SqL K H0 a (ns.map V.int)
  st := fun {v H0 H H0' H' F} h e k => ⟨h.1, h.2.1, sameL e h.2.2⟩
theorem iv_scr {tg : Expr} {a : Addr} {ns : List Int} (hN : X.N[i]? = some x) (hv : Vis X.env.scope x) (hi : env[i]? = some (.own (scrA X.K a ns))) (hd : (x == ("__debug__" : Str)) = false := by decide) (hcd : (x == ("__classdict__" : Str)) = false := by decide) : IV X env tg (.Name x np) (ns.map PyData.int) env true [] :=
  ⟨_, pi_list (pe_var hN hv hd hcd), fun σ H0 H F R S q => by
    obtain ⟨v, e, rfl, _, hs⟩ := S.ok i _ hi
    exact ⟨_, e, a, rfl, ⟨_, sameL S.ex hs⟩, q _ _ _ _ (.refl S) (itd_list hs (da_ofInts ns)).up⟩⟩
end
end SR1
end
section
set_option Elab.async false
set_option linter.all false
set_option maxRecDepth 100000
set_option maxHeartbeats 2000000
set_option exponentiation.threshold 20000
namespace Pu
open PySem PySem.Spec L2
theorem ev_mulS {X : Cx} {env env1 env2 : List Sv} {a b : Expr} {pos : Pos} {i j : Int} {p1 p2 : Bool} (ha : EV X env a (.int i) env1 p1) (hb : EV X env1 b (.int j) env2 p2) (hc : CMul i j) : EV X env (.BinOp a .Mult b pos) (.int (i * j)) env2 (p1 && p2) := ev_bin op_mul ha hb (opv_I hc fun _ => .int _)
end Pu
namespace SR1
open PySem PySem.Spec L2 Pu
theorem sr_openS {X : Cx} {env : List Sv} {sts : List Stmt} {Q : List Sv → Oc → Prop} {s : Src} (i : Nat) (hi : env[i]? = some (.own (srcO s))) (hr : ∀ p l, SR X (env.set i (.own (srcA p l s))) sts Q) : SR X env sts Q := sr_ghost fun σ H0 H F S => by
  obtain ⟨v, hv, p, l, hp⟩ := S.ok i _ hi
  refine ⟨_, H0, F, S.recast hi (Ψ := srcA p l s) fun w hw _ => ?_, .refl, hr p l⟩
  rw [hv] at hw
  cases hw
  exact hp
/-! ### plain: the picks -/
def fillR : List Int → Int → List Int × Int
  | [], l => ([], l)
  | c :: cs, l => if l < 2 then fillR cs c else (c :: cs, l)
def fill (s : Src) : Src := let q := fillR s.cells.reverse s.left; { s with cells := q.1.reverse, left := q.2 }
theorem fill_pop {s : Src} {cs : List Int} {c : Int} (hc : s.cells = cs ++ [c]) (hl : s.left < 2) : fill { s with cells := cs, left := c } = fill s := by
  unfold fill
  simp only [hc, List.reverse_append, List.reverse_cons, List.reverse_nil, List.nil_append, List.singleton_append, fillR, if_pos hl]
theorem fill_end {s : Src} (h : ¬ s.left < 2 ∨ s.cells = []) : fill s = s := by
  unfold fill
  obtain ⟨cells, left, mixed, turn⟩ := s
  rcases h with h | h
  · cases hr : cells.reverse with
    | nil => have : cells = [] := by simpa using hr
             subst this
             rfl
    | cons c cs =>
      simp only [hr, fillR]
      rw [if_neg h]
      simp only [← hr, List.reverse_reverse]
  · have h : cells = [] := h
    subst h
    rfl
def fillM (m : Int) (s : Src) : Src := if 1 < m then fill s else s
def mix (s : Src) : Int := (((s.mixed + (s.turn + 1) * 104729) % 998244353) * ((s.mixed + (s.turn + 1) * 104729) % 998244353) + (s.turn + 1) * 17) % 2147483647
def pick2 (s : Src) (m : Int) : Int × Src := if m < 2 ∨ 1 < s.left then (s.left % max 1 m, { s with left := s.left.fdiv (max 1 m) }) else ((mix s).fdiv 16 % m, { s with turn := s.turn + 1, mixed := mix s })
def pick (s : Src) (m : Int) : Int × Src := pick2 (fillM m s) m
theorem pick_range (s : Src) {m : Int} (h : 1 ≤ m) : 0 ≤ (pick s m).1 ∧ (pick s m).1 < m := by
  unfold pick pick2
  have e : max 1 m = m := by omega
  rw [e]
  split
  · exact ⟨Int.emod_nonneg _ (by omega), Int.emod_lt_of_pos _ (by omega)⟩
  · exact ⟨Int.emod_nonneg _ (by omega), Int.emod_lt_of_pos _ (by omega)⟩
end SR1
namespace K46
open PySem PySem.Spec L2 Pu RB RW SR1
section
variable {P : Program} {w : World} {K : PySem.W.Frag} {mg : Str → Option Value} {base : Heap} {f : Addr} {fd : FuncData}
/-! _law_pick -/
abbrev s29 : Stmt := top 29
abbrev n29 : List Str := ["source", "many", "left", "mixed"]
theorem sc29 : FnScope n29 ["source", "many"] (defScope s29) := ⟨rfl, rfl, rfl, by decide +kernel, rfl, by decide +kernel, by decide +kernel⟩
def cPick : Own → List PyData → PyData → Own → Prop := fun Φ ds d Φ' => ∃ p l s m, Φ = srcA p l s ∧ ds = [.int m] ∧ 1 ≤ m ∧ m ≤ 1000 ∧ d = .int (pick s m).1 ∧ Φ' = srcA p l (pick s m).2
theorem ok_pick (F : Fun K "_law_pick" "_law_pick" s29 f fd) (T : Txt K mg) : FnOk P w K mg base CX0 1 f fd ["source", "many"] (spO K cPick) := by
  refine fn_own F sc29 (fun Φ ds d Φ' ⟨p, l, s, m, _, h, _⟩ => by rw [h]; rfl) (fun Φ ds d Φ' ⟨p, l, s, m, h1, _, _, _, _, h2⟩ => by rw [h2, h1]; exact fix) fun cdv A outer s0 H E' hr Φ ds d Φ' ⟨p, l, s, m, h1, h2, hm1, hm2, h3, h4⟩ => ?_
  subst h1 h2 h3 h4
  have nd := sc29.nd
  have hu : (A.deeper (PyProof.Rows.envOfC (Str.ofString "_law_pick") (defScope s29) s0.heap.objs.size f cdv)).units + 1 < cLine := by have := hr.un; omega
  refine sr_while (fun t e => ∃ s', e = [.own (srcA p l s'), .dat (.int m), .non, .non] ∧ s'.cells.length = t ∧ fillM m s' = fillM m s) PassesOwn.never s.cells.length ⟨s, rfl, rfl, rfl⟩ ?_
  rintro t e ⟨s', rfl, rfl, hf⟩
  refine ⟨_, _, _, EW.et (ew_and (et_gt (v 1) ev_int) fun _ => ew_and (et_lt (ev_key (p := p) (l := l) (i := 0) hu (g_left l s') rfl (Or.inl rfl) rfl) ev_int) fun _ => ew_and1 (et_gt (ev_lenC (p := p) (l := l) (s := s') (i := 0) hu T.len rfl (Or.inl rfl) rfl) ev_int)), fun h => ?_, fun h => ?_⟩
  · simp only [Bool.and_eq_true, decide_eq_true_eq] at h
    obtain ⟨h1, h2, h3⟩ := h
    have hne : s'.cells ≠ [] := by intro z; rw [z] at h3; simp at h3
    have hc := (List.dropLast_concat_getLast hne).symm
    refine sr_pop (p := p) (l := l) (i := 0) hu rfl (Or.inl rfl) rfl hc (sr_nil ⟨s'.cells.length - 1, ?_, _, rfl, ?_, ?_⟩)
    · have := List.length_pos_iff.mpr hne; omega
    · simp
    · rw [← hf]
      unfold fillM
      rw [if_pos h1, if_pos h1]
      exact fill_pop hc h2
  · have hend : fillM m s' = s' := by
      unfold fillM
      split
      · rename_i h1
        apply fill_end
        by_cases z : s'.cells = []
        · exact .inr z
        · refine .inl fun h2 => ?_
          have := List.length_pos_iff.mpr z
          rw [decide_eq_true h1, decide_eq_true h2, decide_eq_true (by omega)] at h
          cases h
      · rfl
    rw [hend] at hf
    have hp : pick s m = pick2 s' m := by unfold pick; rw [← hf]
    rw [hp]
    refine as 2 (ev_key (p := p) (l := l) (i := 0) hu (g_left l s') rfl (Or.inl rfl) rfl) ?_
    have hmx : ∀ x, CDivA x (max 1 m) := fun x => ⟨by omega, log_lt (Nat.lt_of_le_of_lt (show (max 1 m).natAbs ≤ 1000 by omega) (show 1000 < 2 ^ 9000 from Nat.lt_of_lt_of_le (show 1000 < 2 ^ 10 by decide) (Nat.pow_le_pow_right (by decide) (by decide)))) (by decide)⟩
    refine sr_if (EW.et (ew_or (et_lt (v 1) ev_int) fun _ => ew_or1 (et_gt (v 2) ev_int))) (fun h => ?_) fun h => ?_
    · have h : m < 2 ∨ 1 < s'.left := by simpa using h
      have hq : pick2 s' m = (s'.left % max 1 m, { s' with left := s'.left.fdiv (max 1 m) }) := by unfold pick2; rw [if_pos h]
      rw [hq]
      refine sr_key (p := p) (l := l) (i := 0) (t := fun y => { s' with left := y }) hu (p_left l s') (fun _ => rfl) rfl (Or.inl rfl) (ev_fdiv (v 2) (ev_max2 rfl T.max ev_int (v 1)) (hmx _)) rfl ?_
      refine sr_ret (ev_mod (ev_int1 T.int (v 2)) (ev_max2 rfl T.max ev_int (v 1)) (by omega)) ⟨rfl, qr (e := []) ?_⟩
      rfl
    · have h : ¬ (m < 2 ∨ 1 < s'.left) := by simpa using h
      have hq : pick2 s' m = ((mix s').fdiv 16 % m, { s' with turn := s'.turn + 1, mixed := mix s' }) := by unfold pick2; rw [if_neg h]
      rw [hq]
      refine sr_nil ?_
      refine sr_key (p := p) (l := l) (i := 0) (t := fun y => { s' with turn := y }) hu (p_turn l s') (fun _ => rfl) rfl (Or.inl rfl) (ev_add (ev_key (p := p) (l := l) (i := 0) hu (g_turn l s') rfl (Or.inl rfl) rfl) ev_int) rfl ?_
      refine as 3 (ev_mod (ev_int1 T.int (ev_add (ev_key (p := p) (l := l) (i := 0) (s := { s' with turn := s'.turn + 1 }) hu (g_mixed l _) rfl (Or.inl rfl) rfl) (ev_mulS (ev_key (p := p) (l := l) (i := 0) (s := { s' with turn := s'.turn + 1 }) hu (g_turn l _) rfl (Or.inl rfl) rfl) ev_int (Or.inr (by decide))))) ev_int (by decide)) ?_
      have hx : CMul ((s'.mixed + (s'.turn + 1) * 104729) % 998244353) ((s'.mixed + (s'.turn + 1) * 104729) % 998244353) := Or.inl ⟨by omega, by omega⟩
      refine as 3 (ev_mod (ev_int1 T.int (ev_add (ev_mulS (v 3) (v 3) hx) (ev_mulS (ev_key (p := p) (l := l) (i := 0) (s := { s' with turn := s'.turn + 1 }) hu (g_turn l _) rfl (Or.inl rfl) rfl) ev_int (Or.inr (by decide))))) ev_int (by decide)) ?_
      refine sr_key (p := p) (l := l) (i := 0) (t := fun y => { s' with turn := s'.turn + 1, mixed := y }) hu (p_mixed l { s' with turn := s'.turn + 1 }) (fun _ => rfl) rfl (Or.inl rfl) (v 3) rfl ?_
      refine sr_ret (ev_mod (ev_int1 T.int (ev_fdiv (v 3) ev_int ⟨by decide, by decide⟩)) (v 1) (by omega)) ⟨rfl, qr (e := []) ?_⟩
      rfl
end
end K46
end
section
set_option Elab.async false
set_option linter.all false
set_option maxRecDepth 100000
set_option maxHeartbeats 2000000
set_option exponentiation.threshold 20000
namespace K46
open PySem PySem.Spec L2 Pu RB RW SR1
section
variable {P : Program} {w : World} {K : PySem.W.Frag} {mg : Str → Option Value} {base : Heap} {f : Addr} {fd : FuncData}
/-! _law_of -/
abbrev s30 : Stmt := top 30
theorem sc30 : FnScope ["source", "some"] ["source", "some"] (defScope s30) := ⟨rfl, rfl, rfl, by decide +kernel, rfl, by decide +kernel, by decide +kernel⟩
def cOf : Own → List PyData → PyData → Own → Prop := fun Φ ds d Φ' => ∃ p l s xs, Φ = srcA p l s ∧ ds = [.list xs] ∧ 1 ≤ xs.length ∧ xs.length ≤ 1000 ∧ xs[(pick s (xs.length : Int)).1.toNat]? = some d ∧ Φ' = srcA p l (pick s (xs.length : Int)).2
theorem ok_of (F : Fun K "_law_of" "_law_of" s30 f fd) (T : Txt K mg) (D29 : Df P w K mg base 1 "_law_pick" (spO K cPick)) : FnOk P w K mg base CX0 2 f fd ["source", "some"] (spO K cOf) := by
  refine fn_own F sc30 (fun Φ ds d Φ' ⟨p, l, s, xs, _, h, _⟩ => by rw [h]; rfl) (fun Φ ds d Φ' ⟨p, l, s, xs, h1, _, _, _, _, h2⟩ => by rw [h2, h1]; exact fix) fun cdv A outer s0 H E' hr Φ ds d Φ' ⟨p, l, s, xs, h1, h2, hm1, hm2, h3, h4⟩ => ?_
  subst h1 h2 h4
  have nd := sc30.nd
  have hg := pick_range s (m := (xs.length : Int)) (by omega)
  refine sr_ret (ev_ixL (v 1) (ev_callO (i := 0) (Φ := srcA p l s) D29 hr rfl (Or.inl rfl) ⟨_, rfl⟩ (ea1 (ev_lenL T.len (v 1))) rfl (fun Ψ h => by cases h; exact fix) ⟨p, l, s, _, rfl, rfl, by omega, by omega, rfl, rfl⟩) (d := d) ?_) ⟨rfl, qr (e := []) rfl⟩
  show atI xs (pick s (xs.length : Int)).1 = some d
  generalize (pick s (xs.length : Int)).1 = r at hg h3 ⊢
  obtain ⟨n, rfl⟩ : ∃ n : Nat, r = (n : Int) := ⟨r.toNat, by omega⟩
  have := atI_at (g := fun y : PyData => y) (k := n) h3
  rw [List.map_id'] at this
  exact this
end
/-! ### plain: the factors drawn -/
def menuR : List Rat := [⟨1, 2, by decide, by decide⟩, ⟨-1, 2, by decide, by decide⟩, ⟨0, 1, by decide, by decide⟩, ⟨2, 3, by decide, by decide⟩, ⟨-3, 4, by decide, by decide⟩, ⟨99, 100, by decide, by decide⟩, ⟨-9, 10, by decide, by decide⟩]
def menuQ : List Rat := [⟨1, 2, by decide, by decide⟩, ⟨3, 4, by decide, by decide⟩, ⟨9, 10, by decide, by decide⟩, ⟨1, 4, by decide, by decide⟩]
def menuP : List Rat := [⟨0, 1, by decide, by decide⟩, ⟨1, 2, by decide, by decide⟩, ⟨-1, 2, by decide, by decide⟩, ⟨1, 3, by decide, by decide⟩, ⟨-2, 3, by decide, by decide⟩]
def u1 : Rat := ⟨1, 1, by decide, by decide⟩
def menuRim : List (List Rat) := [[u1, u1], [u1, ⟨0, 1, by decide, by decide⟩, u1], [u1, u1, u1], [u1, ⟨-6, 5, by decide, by decide⟩, u1]]
def menuOut : List (List Rat) := [[⟨-2, 1, by decide, by decide⟩, u1], [⟨101, 100, by decide, by decide⟩, u1], [⟨2, 1, by decide, by decide⟩, u1, u1], [⟨-3, 2, by decide, by decide⟩, ⟨0, 1, by decide, by decide⟩, u1]]
def draw1 (s : Src) : (List Rat × Str) × Src :=
  let a := pick s 9
  if a.1 < 3 then
    let b := pick a.2 7
    (([-(menuR.getD b.1.toNat 0), u1], "in"), b.2)
  else if a.1 < 5 then
    let b := pick a.2 4
    let c := pick b.2 5
    (([menuQ.getD b.1.toNat 0, menuP.getD c.1.toNat 0, u1], "in"), c.2)
  else if a.1 < 7 then (([⟨-1, 1, by decide, by decide⟩, u1], "one"), a.2)
  else if a.1 = 7 then
    let b := pick a.2 4
    ((menuRim.getD b.1.toNat [], "rim"), b.2)
  else
    let b := pick a.2 4
    ((menuOut.getD b.1.toNat [], "out"), b.2)
def drawN (s : Src) : Nat → List (List Rat × Str) × Src
  | 0 => ([], s)
  | n + 1 => ((drawN s n).1 ++ [(draw1 (drawN s n).2).1], (draw1 (drawN s n).2).2)
def draw (s : Src) : List (List Rat × Str) × Src := drawN (pick s 4).2 (1 + (pick s 4).1).toNat
theorem drawN_len (s : Src) : ∀ n, (drawN s n).1.length = n
  | 0 => rfl
  | n + 1 => by
    show ((drawN s n).1 ++ [_]).length = n + 1
    rw [List.length_append, drawN_len s n]
    rfl
theorem draw_len (s : Src) : 1 ≤ (draw s).1.length ∧ (draw s).1.length ≤ 4 := by
  have := pick_range s (m := 4) (by decide)
  unfold draw
  rw [drawN_len]
  omega
section
variable {P : Program} {w : World} {K : PySem.W.Frag} {mg : Str → Option Value} {base : Heap} {f : Addr} {fd : FuncData}
/-! _law_factors -/
abbrev s35 : Stmt := top 35
abbrev n35 : List Str := ["source", "found", "lap", "way", "root", "q", "p", "some"]
theorem sc35 : FnScope n35 ["source"] (defScope s35) := ⟨rfl, rfl, rfl, by decide +kernel, rfl, by decide +kernel, by decide +kernel⟩
def cDraw : Own → List PyData → PyData → Own → Prop := fun Φ ds d Φ' => ∃ p l s, Φ = srcA p l s ∧ ds = [] ∧ d = .list ((draw s).1.map facD) ∧ Φ' = srcA p l (draw s).2
theorem of_menu {α : Type} {m : List α} {g : α → PyData} {p l : Addr} {s : Src} (d0 : α) (n : Nat) (hn : m.length = n) (h1 : 1 ≤ n) (h2 : n ≤ 1000) : cOf (srcA p l s) [.list (m.map g)] (g (m.getD (pick s (n : Int)).1.toNat d0)) (srcA p l (pick s (n : Int)).2) := by
  subst hn
  have hg := pick_range s (m := (m.length : Int)) (by omega)
  have e : ((m.map g).length : Int) = (m.length : Int) := by rw [List.length_map]
  refine ⟨p, l, s, m.map g, rfl, rfl, by rw [List.length_map]; exact h1, by rw [List.length_map]; exact h2, ?_, by rw [e]⟩
  rw [e]
  have hx : (pick s (m.length : Int)).1.toNat < m.length := by omega
  rw [List.getElem?_map, List.getD_eq_getElem?_getD, List.getElem?_eq_getElem hx]
  rfl
theorem ok_law_factors (F : Fun K "_law_factors" "_law_factors" s35 f fd) (T : Txt K mg) (D29 : Df P w K mg base 1 "_law_pick" (spO K cPick)) (D30 : Df P w K mg base 2 "_law_of" (spO K cOf)) : FnOk P w K mg base CX0 3 f fd ["source"] (spO K cDraw) := by
  refine fn_own F sc35 (fun Φ ds d Φ' ⟨p, l, s, _, h, _⟩ => by rw [h]; rfl) (fun Φ ds d Φ' ⟨p, l, s, h1, _, _, h2⟩ => by rw [h2, h1]; exact fix) fun cdv A outer s0 H E' hr Φ ds d Φ' ⟨p, l, s, h1, h2, h3, h4⟩ => ?_
  subst h1 h2 h3 h4
  have nd := sc35.nd
  have hr1 : Room 1 _ := hr.mono (by decide)
  have hg := pick_range s (m := 4) (by omega)
  refine asL 1 (el_lst ea_nil) fun l2 => ?_
  refine fr (.nm 2) (fun t e => e = [.own (srcA p l (drawN (pick s 4).2 t).2), .own (lstA K l2 ((drawN (pick s 4).2 t).1.map facD)), .non, .non, .non, .non, .non, .non]) (iv_range1 T.range (ev_add ev_int (ev_callO (i := 0) (Φ := srcA p l s) D29 hr1 rfl (Or.inl rfl) ⟨_, rfl⟩ (ea1 ev_int) rfl (fun Ψ h => by cases h; exact fix) ⟨p, l, s, 4, rfl, rfl, by decide, by decide, rfl, rfl⟩)) (by omega) (by omega)) (pn 2) rfl (fun t dd e hd he => ?_) (fun e he => ?_)
  · subst he
    refine ⟨_, rfl, ?_⟩
    have hr2 : Room 2 _ := hr
    generalize hS : (drawN (pick s 4).2 t) = D
    obtain ⟨ls, sk⟩ := D
    have enext : drawN (pick s 4).2 (t + 1) = (ls ++ [(draw1 sk).1], (draw1 sk).2) := by
      show ((drawN (pick s 4).2 t).1 ++ [_], _) = _
      rw [hS]
    rw [enext]
    have hls : ls.length = t := by have := drawN_len (pick s 4).2 t; rw [hS] at this; exact this
    have ht : t ≤ 100 := by
      have := (List.getElem?_eq_some_iff.mp hd).1
      rw [List.length_map] at this
      rw [List.length_range] at this
      omega
    have hz : (ls.map facD).length < sizeLine := by rw [List.length_map, hls]; exact Nat.lt_of_le_of_lt ht (by decide)
    have e9 := pick_range sk (m := 9) (by decide)
    refine as 3 (ev_callO (i := 0) (Φ := srcA p l sk) D29 hr1 rfl (Or.inl rfl) ⟨_, rfl⟩ (ea1 ev_int) rfl (fun Ψ h => by cases h; exact fix) ⟨p, l, sk, 9, rfl, rfl, by decide, by decide, rfl, rfl⟩) ?_
    refine sr_if (et_lt (v 3) ev_int) (fun h => ?_) (fun h => ?_)
    · have h : (pick sk 9).1 < 3 := by simpa using h
      have hq : draw1 sk = (([-(menuR.getD (pick (pick sk 9).2 7).1.toNat 0), u1], ("in" : Str)), (pick (pick sk 9).2 7).2) := by unfold draw1; simp only []; rw [if_pos h]
      rw [hq]
      refine as 4 (ev_callO (i := 0) (Φ := srcA p l (pick sk 9).2) D30 hr2 rfl (Or.inl rfl) ⟨_, rfl⟩ (ea1 (EV.to (EL.ev (el_lst (ea_cons (ev_tup (ea2 ev_int ev_int)) (ea_cons (ev_tup (ea2 (ev_neg ev_int) ev_int)) (ea_cons (ev_tup (ea2 ev_int ev_int)) (ea_cons (ev_tup (ea2 ev_int ev_int)) (ea_cons (ev_tup (ea2 (ev_neg ev_int) ev_int)) (ea_cons (ev_tup (ea2 ev_int ev_int)) (ea_cons (ev_tup (ea2 (ev_neg ev_int) ev_int)) ea_nil rfl) rfl) rfl) rfl) rfl) rfl) rfl))) (show _ = PyData.list (menuR.map rat) from rfl))) rfl (fun Ψ h => by cases h; exact fix) (of_menu 0 7 rfl (by decide) (by decide))) ?_
      have en : ∀ x : Rat, PyData.tuple [.int (0 - x.num), .int (x.den : Int)] = rat (-x) := fun x => by
        unfold rat
        rw [Rat.neg_num, Rat.neg_den, Int.zero_sub]
      refine ap 1 (ev_tup (ea2 (ev_tup (ea2 (EV.to (ev_tup (ea2 (ev_sub ev_int (ev_ixT (v 4) ev_int (i := 0) rfl)) (ev_ixT (v 4) ev_int (i := 1) rfl))) (en _)) (ev_tup (ea2 ev_int ev_int)))) ev_str)) hz ?_
      refine sr_drop 2 (sr_drop 3 (sr_drop 4 (sr_nil (sr_nil ?_))))
      show _ = _
      rw [List.map_append]
      rfl
    have h : ¬ (pick sk 9).1 < 3 := by simpa using h
    refine sr_if (et_lt (v 3) ev_int) (fun h5 => ?_) (fun h5 => ?_)
    · have h5 : (pick sk 9).1 < 5 := by simpa using h5
      have hq : draw1 sk = (([menuQ.getD (pick (pick sk 9).2 4).1.toNat 0, menuP.getD (pick (pick (pick sk 9).2 4).2 5).1.toNat 0, u1], ("in" : Str)), (pick (pick (pick sk 9).2 4).2 5).2) := by unfold draw1; simp only []; rw [if_neg h, if_pos h5]
      rw [hq]
      refine as 5 (ev_callO (i := 0) (Φ := srcA p l (pick sk 9).2) D30 hr2 rfl (Or.inl rfl) ⟨_, rfl⟩ (ea1 (EV.to (EL.ev (el_lst (ea_cons (ev_tup (ea2 ev_int ev_int)) (ea_cons (ev_tup (ea2 ev_int ev_int)) (ea_cons (ev_tup (ea2 ev_int ev_int)) (ea_cons (ev_tup (ea2 ev_int ev_int)) ea_nil rfl) rfl) rfl) rfl))) (show _ = PyData.list (menuQ.map rat) from rfl))) rfl (fun Ψ h => by cases h; exact fix) (of_menu 0 4 rfl (by decide) (by decide))) ?_
      refine as 6 (ev_callO (i := 0) (Φ := srcA p l (pick (pick sk 9).2 4).2) D30 hr2 rfl (Or.inl rfl) ⟨_, rfl⟩ (ea1 (EV.to (EL.ev (el_lst (ea_cons (ev_tup (ea2 ev_int ev_int)) (ea_cons (ev_tup (ea2 ev_int ev_int)) (ea_cons (ev_tup (ea2 (ev_neg ev_int) ev_int)) (ea_cons (ev_tup (ea2 ev_int ev_int)) (ea_cons (ev_tup (ea2 (ev_neg ev_int) ev_int)) ea_nil rfl) rfl) rfl) rfl) rfl))) (show _ = PyData.list (menuP.map rat) from rfl))) rfl (fun Ψ h => by cases h; exact fix) (of_menu 0 5 rfl (by decide) (by decide))) ?_
      refine ap 1 (ev_tup (ea2 (ev_tup (ea3 (v 5) (v 6) (ev_tup (ea2 ev_int ev_int)))) ev_str)) hz ?_
      refine sr_drop 2 (sr_drop 3 (sr_drop 5 (sr_drop 6 (sr_nil (sr_nil (sr_nil ?_))))))
      show _ = _
      rw [List.map_append]
      rfl
    have h5 : ¬ (pick sk 9).1 < 5 := by simpa using h5
    refine sr_if (et_lt (v 3) ev_int) (fun h7 => ?_) (fun h7 => ?_)
    · have h7 : (pick sk 9).1 < 7 := by simpa using h7
      have hq : draw1 sk = (([⟨-1, 1, by decide, by decide⟩, u1], ("one" : Str)), (pick sk 9).2) := by unfold draw1; simp only []; rw [if_neg h, if_neg h5, if_pos h7]
      rw [hq]
      refine ap 1 (ev_tup (ea2 (ev_tup (ea2 (ev_tup (ea2 (ev_neg ev_int) ev_int)) (ev_tup (ea2 ev_int ev_int)))) ev_str)) hz ?_
      refine sr_drop 2 (sr_drop 3 (sr_nil (sr_nil (sr_nil (sr_nil ?_)))))
      show _ = _
      rw [List.map_append]
      rfl
    have h7 : ¬ (pick sk 9).1 < 7 := by simpa using h7
    refine sr_if (et_eqI hr (v 3) ev_int) (fun h8 => ?_) (fun h8 => ?_)
    · have h8 : (pick sk 9).1 = 7 := by simpa using h8
      have hq : draw1 sk = ((menuRim.getD (pick (pick sk 9).2 4).1.toNat [], ("rim" : Str)), (pick (pick sk 9).2 4).2) := by unfold draw1; simp only []; rw [if_neg h, if_neg h5, if_neg h7, if_pos h8]
      rw [hq]
      refine as 7 (EV.to (EL.ev (el_lst (ea_cons (ev_tup (ea2 (ev_tup (ea2 ev_int ev_int)) (ev_tup (ea2 ev_int ev_int)))) (ea_cons (ev_tup (ea3 (ev_tup (ea2 ev_int ev_int)) (ev_tup (ea2 ev_int ev_int)) (ev_tup (ea2 ev_int ev_int)))) (ea_cons (ev_tup (ea3 (ev_tup (ea2 ev_int ev_int)) (ev_tup (ea2 ev_int ev_int)) (ev_tup (ea2 ev_int ev_int)))) (ea_cons (ev_tup (ea3 (ev_tup (ea2 ev_int ev_int)) (ev_tup (ea2 (ev_neg ev_int) ev_int)) (ev_tup (ea2 ev_int ev_int)))) ea_nil rfl) rfl) rfl) rfl))) (show _ = PyData.list (menuRim.map row) from rfl)) ?_
      refine ap 1 (ev_tup (ea2 (ev_callO (i := 0) (Φ := srcA p l (pick sk 9).2) D30 hr2 rfl (Or.inl rfl) ⟨_, rfl⟩ (ea1 (v 7)) rfl (fun Ψ h => by cases h; exact fix) (of_menu [] 4 rfl (by decide) (by decide))) ev_str)) hz ?_
      refine sr_drop 2 (sr_drop 3 (sr_drop 7 (sr_nil (sr_nil (sr_nil (sr_nil (sr_nil ?_)))))))
      show _ = _
      rw [List.map_append]
      rfl
    · have h8 : ¬ (pick sk 9).1 = 7 := by simpa using h8
      have hq : draw1 sk = ((menuOut.getD (pick (pick sk 9).2 4).1.toNat [], ("out" : Str)), (pick (pick sk 9).2 4).2) := by unfold draw1; simp only []; rw [if_neg h, if_neg h5, if_neg h7, if_neg h8]
      rw [hq]
      refine as 7 (EV.to (EL.ev (el_lst (ea_cons (ev_tup (ea2 (ev_tup (ea2 (ev_neg ev_int) ev_int)) (ev_tup (ea2 ev_int ev_int)))) (ea_cons (ev_tup (ea2 (ev_tup (ea2 ev_int ev_int)) (ev_tup (ea2 ev_int ev_int)))) (ea_cons (ev_tup (ea3 (ev_tup (ea2 ev_int ev_int)) (ev_tup (ea2 ev_int ev_int)) (ev_tup (ea2 ev_int ev_int)))) (ea_cons (ev_tup (ea3 (ev_tup (ea2 (ev_neg ev_int) ev_int)) (ev_tup (ea2 ev_int ev_int)) (ev_tup (ea2 ev_int ev_int)))) ea_nil rfl) rfl) rfl) rfl))) (show _ = PyData.list (menuOut.map row) from rfl)) ?_
      refine ap 1 (ev_tup (ea2 (ev_callO (i := 0) (Φ := srcA p l (pick sk 9).2) D30 hr2 rfl (Or.inl rfl) ⟨_, rfl⟩ (ea1 (v 7)) rfl (fun Ψ h => by cases h; exact fix) (of_menu [] 4 rfl (by decide) (by decide))) ev_str)) hz ?_
      refine sr_drop 2 (sr_drop 3 (sr_drop 7 (sr_nil (sr_nil (sr_nil (sr_nil (sr_nil ?_)))))))
      show _ = _
      rw [List.map_append]
      rfl
  · subst he
    rw [List.length_map, List.length_range]
    refine sr_freeze 1 rfl (sr_ret (v 1) ⟨rfl, qr (e := []) ?_⟩)
    rfl
end
end K46
end
section
set_option Elab.async false
set_option linter.all false
set_option maxRecDepth 100000
set_option maxHeartbeats 2000000
set_option exponentiation.threshold 20000
namespace K46
open PySem PySem.Spec L2 Pu RB RW SR1
section
variable {P : Program} {w : World} {K : PySem.W.Frag} {mg : Str → Option Value} {base : Heap} {f : Addr} {fd : FuncData}
/-! _law_source -/
abbrev s28 : Stmt := top 28
abbrev n28 : List Str := ["script", "mixed", "cell"]
theorem sc28 : FnScope n28 ["script"] (defScope s28) := ⟨rfl, rfl, rfl, by decide +kernel, rfl, by decide +kernel, by decide +kernel⟩
def mixC (m c : Int) : Int := (m * 69069 + c * 31 + 5) % 2147483629
def source (ns : List Int) : Src := ⟨(ns.map fun c => (c.natAbs : Int)).reverse, 1, ns.foldl mixC 11, 0⟩
def cSource (K : PySem.W.Frag) : Own → Own → Prop := fun Φ Φr => ∃ a ns, Φ = scrA K a ns ∧ ns.length ≤ 63 ∧ Φr = srcO (source ns)
theorem ok_source (F : Fun K "_law_source" "_law_source" s28 f fd) (T : Txt K mg) : FnOk P w K mg base CX0 1 f fd ["script"] (spN K (cSource K)) := by
  refine fn_new F sc28 rfl fun cdv A outer s0 H E' hr Φ Φr ⟨a, ns, h1, hlen, h2⟩ => ?_
  subst h1 h2
  have nd := sc28.nd
  refine as 1 ev_int ?_
  refine fr (.nm 2) (fun t e => e = [.own (scrA K a ns), .dat (.int ((ns.take t).foldl mixC 11)), .non]) (iv_scr (X := (cxOf CX0 P w K mg base n28 "_law_source" (defScope s28) f cdv A outer s0 H E').nox) (i := 0) rfl (Or.inl rfl) rfl) (pn 2) rfl (fun t dd e hd he => ?_) (fun e he => ?_)
  · subst he
    obtain ⟨c, hc, rfl⟩ := map_at hd
    have enext : (ns.take (t + 1)).foldl mixC 11 = mixC ((ns.take t).foldl mixC 11) c := by rw [take_at hc, List.foldl_append]; rfl
    rw [enext]
    generalize (ns.take t).foldl mixC 11 = m
    refine ⟨_, rfl, ?_⟩
    refine as 1 (ev_mod (ev_int1 T.int (ev_add (ev_add (ev_mulS (v 1) ev_int (Or.inr (by decide))) (ev_mulS (v 2) ev_int (Or.inr (by decide)))) ev_int)) ev_int (by decide)) ?_
    exact sr_drop 2 (sr_nil rfl)
  · subst he
    rw [List.length_map, List.take_length]
    refine sr_retO (eg_dict (cs := (source ns).cells) (EL.to (el_rev (EL.ev (LC.l (lc n28 (defScope s28) [("cell", 2)] (.nm 2) ns PyData.int (fun c => .int (c.natAbs : Int)) (fun c => [.own (scrA K a ns), .dat (.int (ns.foldl mixC 11)), .dat (.int c)])
      (iv_scr (X := (cxOf CX0 P w K mg base n28 "_law_source" (defScope s28) f cdv A outer s0 H E').nox) (i := 0) rfl (Or.inl rfl) rfl) (room (by omega)) (fun _ => pn 2) fun c _ b => ev_abs T.abs (v 2))))) ?_) ev_int (v 1) ev_int) rfl
    show _ = (List.map (fun c : Int => (c.natAbs : Int)) ns).reverse.map PyData.int
    rw [List.map_reverse, List.map_map]
    rfl
end
end K46
end
section
set_option Elab.async false
set_option linter.all false
set_option maxRecDepth 100000
set_option maxHeartbeats 2000000
namespace K46
open PySem PySem.Spec L2 Pu RB RW SR1
open SC (Kd Fac In Out sumR)
def kdS : Kd → Str
  | .inn => "in"
  | .one => "one"
  | .rim => "rim"
  | .out => "out"
structure Gd (p : List Rat × Str) : Prop where
  two : 2 ≤ p.1.length
  len : p.1.length ≤ 3
  nrm : Nrm 300 1200 p.1
  fine : ∃ D Z b, Nrm D Z p.1 ∧ Z < 2 ^ b ∧ D < 2 ^ 10 ∧ b ≤ 10 ∧ (p.1.length = 3 → b ≤ 8)
  kd : ∃ k, p.2 = kdS k ∧ Fac.Ok ⟨p.1, k⟩
def nrmB (D Z : Nat) (f : List Rat) : Bool := f.all (fun r => decide (r.den ∣ D)) && decide (norm1 f * ((D : Int) : Rat) ≤ ((Z : Int) : Rat))
theorem nrm_of {D Z : Nat} {f : List Rat} (h0 : 0 < D) (h : nrmB D Z f = true) : Nrm D Z f := by
  unfold nrmB at h
  simp only [Bool.and_eq_true, decide_eq_true_eq] at h
  exact ⟨h0, fun r hr => of_decide_eq_true (List.all_eq_true.mp h.1 r hr), h.2⟩
def chk (f : List Rat) : Bool := decide (2 ≤ f.length) && decide (f.length ≤ 3) && nrmB 300 1200 f && (if f.length = 3 then nrmB 60 240 f else nrmB 300 900 f) && decide (sumR f ≠ 0)
theorem gd_of {f : List Rat} {wd : Str} (h : chk f = true) (hk : sumR f ≠ 0 → ∃ k, wd = kdS k ∧ Fac.Ok ⟨f, k⟩) : Gd (f, wd) := by
  unfold chk at h
  simp only [Bool.and_eq_true, decide_eq_true_eq] at h
  obtain ⟨⟨⟨⟨h1, h2⟩, h3⟩, h4⟩, h5⟩ := h
  refine ⟨h1, h2, nrm_of (by decide) h3, ?_, hk h5⟩
  show ∃ D Z b, Nrm D Z f ∧ Z < 2 ^ b ∧ D < 2 ^ 10 ∧ b ≤ 10 ∧ (f.length = 3 → b ≤ 8)
  split at h4
  · exact ⟨60, 240, 8, nrm_of (by decide) h4, by decide, by decide, by decide, fun _ => by decide⟩
  · rename_i h
    exact ⟨300, 900, 10, nrm_of (by decide) h4, by decide, by decide, by decide, fun e => absurd e h⟩
theorem gd_r : (menuR.all fun r => chk [-r, u1] && decide ((-r) * (-r) < 1)) = true := by decide +kernel
theorem gd_q : (menuQ.all fun q => menuP.all fun p => chk [q, p, u1] && decide (q * q < 1) && decide (p * p < (1 + q) * (1 + q))) = true := by decide +kernel
theorem gd_m : (menuRim.all chk && menuOut.all chk) = true := by decide +kernel
theorem u1_one : u1 = 1 := rfl
theorem getD_mem {α : Type} {m : List α} {d0 : α} {i : Nat} (h : i < m.length) : m.getD i d0 ∈ m := by
  rw [List.getD_eq_getElem?_getD, List.getElem?_eq_getElem h]
  exact List.getElem_mem h
theorem pick_lt (s : Src) {α : Type} (m : List α) (n : Nat) (hn : m.length = n) (h : 1 ≤ n) (d0 : α) : m.getD (pick s (n : Int)).1.toNat d0 ∈ m := by
  have := pick_range s (m := (n : Int)) (by omega)
  exact getD_mem (by omega)
theorem rim_out : ∀ f ∈ menuRim, Out f := by
  have z : ∀ b x y : Rat, (1 - 1) * ((1 + 1) * (x * x + y * y) + 2 * b * (x * y)) ≤ 0 := fun b x y => by grind
  intro f hf
  have hf : f = [u1, u1] ∨ f = [u1, ⟨0, 1, by decide, by decide⟩, u1] ∨ f = [u1, u1, u1] ∨ f = [u1, ⟨-6, 5, by decide, by decide⟩, u1] := by simpa [menuRim] using hf
  rcases hf with rfl | rfl | rfl | rfl
  · exact .lin 1 (by decide +kernel)
  · exact .quad 1 _ (z _)
  · exact .quad 1 _ (z _)
  · exact .quad 1 _ (z _)
theorem out_out : ∀ f ∈ menuOut, Out f := by
  intro f hf
  have hf : f = [⟨-2, 1, by decide, by decide⟩, u1] ∨ f = [⟨101, 100, by decide, by decide⟩, u1] ∨ f = [⟨2, 1, by decide, by decide⟩, u1, u1] ∨ f = [⟨-3, 2, by decide, by decide⟩, ⟨0, 1, by decide, by decide⟩, u1] := by simpa [menuOut] using hf
  rcases hf with rfl | rfl | rfl | rfl
  · exact .lin _ (by decide +kernel)
  · exact .lin _ (by decide +kernel)
  · refine .quad _ _ fun x y => ?_
    have e : (⟨2, 1, by decide, by decide⟩ : Rat) = 2 := rfl
    rw [e, u1_one]
    have h1 := SC.sq_nonneg (x + y)
    have h2 := SC.sq_nonneg x
    have h3 := SC.sq_nonneg y
    grind
  · refine .quad _ _ fun x y => ?_
    have e : (⟨-3, 2, by decide, by decide⟩ : Rat) = -(3 / 2) := by decide +kernel
    have e0 : (⟨0, 1, by decide, by decide⟩ : Rat) = 0 := rfl
    rw [e, e0]
    have h2 := SC.sq_nonneg x
    have h3 := SC.sq_nonneg y
    grind
theorem gd_draw (s : Src) : Gd (draw1 s).1 := by
  unfold draw1
  simp only []
  split
  · have hm := pick_lt (pick s 9).2 menuR 7 rfl (by decide) 0
    have h := List.all_eq_true.mp gd_r _ hm
    simp only [Bool.and_eq_true, decide_eq_true_eq] at h
    exact gd_of h.1 fun hs => ⟨.inn, rfl, .lin _ h.2, hs⟩
  split
  · have hm := pick_lt (pick s 9).2 menuQ 4 rfl (by decide) 0
    have hp := pick_lt (pick (pick s 9).2 4).2 menuP 5 rfl (by decide) 0
    have h := List.all_eq_true.mp (List.all_eq_true.mp gd_q _ hm) _ hp
    simp only [Bool.and_eq_true, decide_eq_true_eq] at h
    exact gd_of h.1.1 fun hs => ⟨.inn, rfl, .quad _ _ h.1.2 h.2, hs⟩
  split
  · show Gd ([⟨-1, 1, by decide, by decide⟩, u1], ("one" : Str))
    exact ⟨by decide, by decide, nrm_of (by decide) (by decide +kernel), ⟨300, 900, 10, nrm_of (by decide) (by decide +kernel), by decide, by decide, by decide, fun e => by cases e⟩, .one, rfl, rfl⟩
  have g := gd_m
  simp only [Bool.and_eq_true] at g
  split
  · have hm := pick_lt (pick s 9).2 menuRim 4 rfl (by decide) []
    exact gd_of (List.all_eq_true.mp g.1 _ hm) fun hs => ⟨.rim, rfl, rim_out _ hm, hs⟩
  · have hm := pick_lt (pick s 9).2 menuOut 4 rfl (by decide) []
    exact gd_of (List.all_eq_true.mp g.2 _ hm) fun hs => ⟨.out, rfl, out_out _ hm, hs⟩
theorem gd_all (s : Src) : ∀ n, ∀ p ∈ (drawN s n).1, Gd p
  | 0, p, h => by cases h
  | n + 1, p, h => by
    rcases List.mem_append.mp h with h | h
    · exact gd_all s n p h
    · rw [List.mem_singleton.mp h]; exact gd_draw _
theorem gd (s : Src) : ∀ p ∈ (draw s).1, Gd p := gd_all _ _
end K46
end
section
set_option Elab.async false
set_option linter.all false
set_option maxRecDepth 100000
set_option maxHeartbeats 2000000
namespace K46
open PySem PySem.Spec L2 Pu RB RW SR1
open SC (Kd Fac In Out sumR conv prod conv_comm conv_assoc one_conv prod_ne ends lcms wholes)
structure Fcs (fs : List (List Rat × Str)) : Prop where
  one : 1 ≤ fs.length
  four : fs.length ≤ 4
  gd : ∀ p ∈ fs, Gd p
theorem fcs_draw (s : Src) : Fcs (draw s).1 := ⟨(draw_len s).1, (draw_len s).2, gd s⟩
theorem Gd.ne {p : List Rat × Str} (h : Gd p) : p.1 ≠ [] := fun e => by have := h.two; rw [e] at this; simp at this
theorem Fcs.facs {fs : List (List Rat × Str)} (h : Fcs fs) : FacsOk fs := ⟨h.four, fun p hp => ⟨(h.gd p hp).ne, (h.gd p hp).len, (h.gd p hp).nrm⟩⟩
theorem fold_conv : ∀ (l : List (List Rat × Str)) (a : List Rat), a ≠ [] → (∀ p ∈ l, p.1 ≠ []) → l.foldl (fun a p => conv a p.1) a = conv a (prod (l.map (·.1)))
  | [], a, ha, _ => by
    show a = conv a [1]
    rw [conv_comm a [1] ha (by simp), one_conv a ha]
  | p :: l, a, ha, h => by
    have hp := h p (List.mem_cons_self ..)
    have hl : ∀ q ∈ l, q.1 ≠ [] := fun q m => h q (List.mem_cons_of_mem _ m)
    have hne : conv a p.1 ≠ [] := fun e => by
      have := SC.conv_length a p.1 hp
      rw [e] at this
      have := List.length_pos_iff.mpr ha
      have := List.length_pos_iff.mpr hp
      simp only [List.length_nil] at *
      omega
    rw [List.foldl_cons, fold_conv l _ hne hl, conv_assoc a p.1 _ ha hp (prod_ne _ fun f hf => by
      obtain ⟨q, hq, rfl⟩ := List.mem_map.mp hf
      exact hl q hq)]
    rfl
theorem Fcs.prods {fs : List (List Rat × Str)} (h : Fcs fs) : prods fs = prod (fs.map (·.1)) := by
  have hne : ∀ f ∈ fs.map (·.1), f ≠ [] := fun f hf => by
    obtain ⟨q, hq, rfl⟩ := List.mem_map.mp hf
    exact (h.gd q hq).ne
  unfold K46.prods
  rw [fold_conv fs [1] (by simp) fun p hp => (h.gd p hp).ne, one_conv _ (prod_ne _ hne)]
/-- the factors with their kinds -/
theorem facs_of : ∀ {fs : List (List Rat × Str)}, (∀ p ∈ fs, Gd p) → ∃ gs : List Fac, fs = gs.map (fun g => (g.nums, kdS g.kd)) ∧ ∀ g ∈ gs, g.Ok
  | [], _ => ⟨[], rfl, fun g hg => by cases hg⟩
  | p :: fs, h => by
    obtain ⟨gs, e, hg⟩ := facs_of (fs := fs) fun q hq => h q (List.mem_cons_of_mem _ hq)
    obtain ⟨k, hk, ho⟩ := (h p (List.mem_cons_self ..)).kd
    refine ⟨⟨p.1, k⟩ :: gs, ?_, fun g m => ?_⟩
    · rw [List.map_cons, ← e]
      show p :: fs = (p.1, kdS k) :: fs
      rw [← hk]
    · rcases List.mem_cons.mp m with rfl | m
      · exact ho
      · exact hg g m
theorem Fcs.settle {fs : List (List Rat × Str)} (h : Fcs fs) {gs : List Fac} (e : fs = gs.map fun g => (g.nums, kdS g.kd)) (hg : ∀ g ∈ gs, g.Ok) : SC.settle (K46.prods fs) = SC.due gs := by
  rw [h.prods, e, List.map_map]
  exact SC.settle_due gs hg
theorem Fcs.last {fs : List (List Rat × Str)} (h : Fcs fs) : (K46.prods fs).getLastD 0 = 1 := by
  obtain ⟨gs, e, hg⟩ := facs_of h.gd
  rw [h.prods]
  refine SC.last_prod _ fun f hf => ?_
  rw [e, List.map_map] at hf
  obtain ⟨g, hm, rfl⟩ := List.mem_map.mp hf
  exact (hg g hm).facts
/-- the sizes of the product -/
theorem sizes : ∀ (fs : List (List Rat × Str)), (∀ p ∈ fs, Gd p) → ∃ D Z b k1 k2, Nrm D Z (prod (fs.map (·.1))) ∧ Z ≤ 2 ^ b ∧ D ≤ 2 ^ (10 * fs.length) ∧ (prod (fs.map (·.1))).length = 1 + k1 + 2 * k2 ∧ k1 + k2 = fs.length ∧ b ≤ 10 * k1 + 8 * k2
  | [], _ => ⟨1, 1, 0, 0, 0, nrm_one, by decide, by decide, rfl, rfl, by decide⟩
  | p :: fs, h => by
    have hp := h p (List.mem_cons_self ..)
    obtain ⟨D, Z, b, k1, k2, h1, h2, h3, h4, h5, h6⟩ := sizes fs fun q hq => h q (List.mem_cons_of_mem _ hq)
    obtain ⟨D', Z', b', g1, g2, g3, g4, g5⟩ := hp.fine
    have hc : Nrm (D' * D) (Z' * Z) (prod ((p :: fs).map (·.1))) := g1.conv h1
    have hne : prod (fs.map (·.1)) ≠ [] := fun e => by rw [e] at h4; simp only [List.length_nil] at h4; omega
    have hl : (prod ((p :: fs).map (·.1))).length = p.1.length + (prod (fs.map (·.1))).length - 1 := SC.conv_length p.1 _ hne
    have z : Z' * Z ≤ 2 ^ (b' + b) := by rw [Nat.pow_add]; exact Nat.mul_le_mul (Nat.le_of_lt g2) h2
    have d : D' * D ≤ 2 ^ (10 * (p :: fs).length) := by
      have : 10 * (p :: fs).length = 10 + 10 * fs.length := by rw [List.length_cons]; omega
      rw [this, Nat.pow_add]; exact Nat.mul_le_mul (Nat.le_of_lt g3) h3
    have t1 := hp.two
    have t2 := hp.len
    by_cases h3' : p.1.length = 3
    · exact ⟨_, _, b' + b, k1, k2 + 1, hc, z, d, by rw [hl, h4, h3']; omega, by rw [List.length_cons]; omega, by have := g5 h3'; omega⟩
    · exact ⟨_, _, b' + b, k1 + 1, k2, hc, z, d, by rw [hl, h4]; omega, by rw [List.length_cons]; omega, by omega⟩
end K46
end
section
set_option Elab.async false
set_option linter.all false
set_option maxRecDepth 100000
set_option maxHeartbeats 2000000
set_option exponentiation.threshold 20000
namespace K46
open PySem PySem.Spec L2 Pu RB RW SR1
open SC (sumR conv prod ends lcms wholes)
theorem Nrm.tail {D Z : Nat} {a : Rat} {l : List Rat} (h : Nrm D Z (a :: l)) : Nrm D Z l := ⟨h.pos, fun r hr => h.den r (List.mem_cons_of_mem _ hr), Rat.le_trans (mul_le_D (by
  show norm1 l ≤ ab a + norm1 l
  have := ab_nonneg a
  grind)) h.nrm⟩
theorem sum_norm : ∀ l : List Rat, ab (sumR l) ≤ norm1 l
  | [] => by decide +kernel
  | a :: l => by
    have h1 := sum_norm l
    have h2 := ab_add a (sumR l)
    show ab (a + sumR l) ≤ ab a + norm1 l
    grind
theorem sum_den {D : Nat} (h0 : 0 < D) : ∀ l : List Rat, (∀ r ∈ l, r.den ∣ D) → (sumR l).den ∣ D
  | [], _ => Nat.one_dvd _
  | a :: l, h => den_add h0 (h a (List.mem_cons_self ..)) (sum_den h0 l fun r hr => h r (List.mem_cons_of_mem _ hr))
theorem Nrm.sum {D Z : Nat} {l : List Rat} (h : Nrm D Z l) : Sz D Z (sumR l) := ⟨sum_den h.pos l h.den, Rat.le_trans (mul_le_D (sum_norm l)) h.nrm⟩
theorem ends_len : ∀ l : List Rat, (ends l).length = l.length
  | [] => rfl
  | a :: l => by show (ends l).length + 1 = _; rw [ends_len l]; rfl
theorem ends_sz {D Z : Nat} : ∀ {l : List Rat}, Nrm D Z l → ∀ x ∈ ends l, Sz D Z x
  | [], _, x, hx => by cases hx
  | a :: l, h, x, hx => by
    rcases List.mem_cons.mp hx with rfl | hx
    · exact h.sum
    · exact ends_sz h.tail x hx
theorem sum_sz {D Z : Nat} (h0 : 0 < D) : ∀ {l : List Rat}, (∀ r ∈ l, Sz D Z r) → Sz D (l.length * Z) (sumR l)
  | [], _ => .zero
  | a :: l, h => by
    have h1 := sum_sz h0 (l := l) fun r hr => h r (List.mem_cons_of_mem _ hr)
    exact ((h a (List.mem_cons_self ..)).add h0 h1).up (by rw [List.length_cons, Nat.succ_mul]; omega)
theorem pow_lt {a b : Nat} (h : a < b) : 2 ^ a < 2 ^ b := Nat.pow_lt_pow_right (by decide) h
theorem sumOk_of {D Z b : Nat} {l : List Rat} (h0 : 0 < D) (hD : D ≤ 2 ^ 40) (hZ : Z ≤ 2 ^ b) (hb : b ≤ 40) (hl : l.length ≤ 16) (h : ∀ r ∈ l, Sz D Z r) : SumOk l := fun k hk => by
  rw [sumL_sumR]
  have h1 := sum_sz h0 (l := l.take k) fun r hr => h r (List.mem_of_mem_take hr)
  have hz : (l.take k).length * Z < 2 ^ 4000 := by
    have e1 : (l.take k).length ≤ 2 ^ 4 := by rw [List.length_take]; omega
    have e2 : Z ≤ 2 ^ 40 := Nat.le_trans hZ (Nat.pow_le_pow_right (by decide) hb)
    exact Nat.lt_of_le_of_lt (Nat.mul_le_mul e1 e2) (by rw [← Nat.pow_add]; exact pow_lt (by decide))
  exact h1.sm h0 (Nat.lt_of_le_of_lt hD (pow_lt (by decide))) hz
theorem testOk_of {D Z b : Nat} {l : List Rat} (h0 : 0 < D) (hD : D ≤ 2 ^ 40) (hZ : Z ≤ 2 ^ b) (hb : b ≤ 40) (hl : l.length ≤ 16) (h : ∀ r ∈ l, Sz D Z r) (hn : (b + 2) * 2 ^ (l.length - 1) ≤ 9000) : TestOk l := by
  have hD4 : D < 2 ^ 4000 := Nat.lt_of_le_of_lt hD (pow_lt (by decide))
  have hZ4 : Z < 2 ^ 4000 := Nat.lt_of_le_of_lt hZ (pow_lt (by omega))
  refine ⟨⟨D, h0, hD4, fun r hr => (h r hr).den, fun r hr => Nat.lt_of_le_of_lt ((h r hr).num h0) hZ4, by omega⟩, fun r hr => (h r hr).sm h0 hD4 hZ4, sumOk_of h0 hD hZ hb hl h, ⟨b + 1, fun x hx => ?_, hn⟩, by omega⟩
  obtain ⟨r, hr, rfl⟩ := List.mem_map.mp hx
  exact Nat.lt_of_le_of_lt ((h r hr).whole h0 (SC.den_dvd_lcms hr) (lcms_le h0 fun r hr => (h r hr).den)) (Nat.lt_of_le_of_lt hZ (pow_lt (by omega)))
/-- the shape of a relation put together -/
structure Shp (rs : List Rat) (D Z b n : Nat) : Prop where
  nrm : Nrm D Z rs
  hZ : Z ≤ 2 ^ b
  hD : D ≤ 2 ^ 40
  hb : b ≤ 40
  len : rs.length = n + 1
  n1 : 1 ≤ n
  n8 : n ≤ 8
  bit : (b + 2) * 2 ^ n ≤ 9000
  last : rs.getLastD 0 = 1
theorem few9 : ∀ k1 < 5, ∀ k2 < 5, k1 + k2 ≤ 4 → (10 * k1 + 8 * k2 + 2) * 2 ^ (k1 + 2 * k2) ≤ 9000 := by decide
theorem Fcs.shape {fs : List (List Rat × Str)} (h : Fcs fs) : ∃ D Z b n, Shp (K46.prods fs) D Z b n := by
  obtain ⟨D, Z, b, k1, k2, h1, h2, h3, h4, h5, h6⟩ := sizes fs h.gd
  have hf := h.four
  have ho := h.one
  refine ⟨D, Z, b, k1 + 2 * k2, by rw [h.prods]; exact h1, h2, Nat.le_trans h3 (Nat.pow_le_pow_right (by decide) (by omega)), by omega, by rw [h.prods, h4]; omega, by omega, by omega, ?_, h.last⟩
  exact Nat.le_trans (Nat.mul_le_mul_right _ (by omega)) (few9 k1 (by omega) k2 (by omega) (by omega))
theorem Shp.set {rs : List Rat} {D Z b n : Nat} (h : Shp rs D Z b n) : SetOk rs := by
  have hl := h.len
  have h8 := h.n8
  obtain ⟨a, l, rfl⟩ : ∃ a l, rs = a :: l := by
    cases rs with
    | nil => simp at hl
    | cons a l => exact ⟨a, l, rfl⟩
  have hll : l.length = n := by simpa using hl
  have hp := h.nrm.pos
  refine ⟨by rw [hl]; omega, testOk_of hp h.hD h.hZ h.hb (by omega) (fun r hr => h.nrm.mem hr) (by rw [hl]; exact h.bit), testOk_of hp h.hD h.hZ h.hb (by rw [ends_len]; show l.length ≤ 16; omega) (ends_sz h.nrm.tail) ?_, sumOk_of hp h.hD h.hZ h.hb (by show (List.reverse l).length ≤ 16; rw [List.length_reverse]; omega) fun r hr => h.nrm.tail.mem (List.mem_reverse.mp hr)⟩
  rw [ends_len]
  show (b + 2) * 2 ^ (l.length - 1) ≤ 9000
  exact Nat.le_trans (Nat.mul_le_mul_left _ (Nat.pow_le_pow_right (by decide) (by omega))) h.bit
end K46
end
section
set_option Elab.async false
set_option linter.all false
set_option maxRecDepth 100000
set_option maxHeartbeats 2000000
set_option exponentiation.threshold 20000
/-! the relation's sums over the companion (plain) -/
namespace K46
open PySem PySem.Spec L2 Pu RB RW SR1
open SC (sumR conv prod ends lcms wholes)
def cof (rs : List Rat) (k : Nat) : Rat := rs.getD k 0
theorem Shp.tab {rs : List Rat} {D Z b n : Nat} (h : Shp rs D Z b n) : rs = tabI n (cof rs) ++ [1] := by
  have hl := h.len
  have ht : rs = tabI (n + 1) (cof rs) := list_ext hl fun i hi => by
    unfold cof
    rw [List.getD_eq_getElem?_getD, List.getElem?_eq_getElem (by omega)]
    rfl
  have hn : cof rs n = 1 := by
    rw [← h.last, List.getLastD_eq_getLast?, List.getLast?_eq_getElem?]
    unfold cof
    rw [List.getD_eq_getElem?_getD, hl]
    rfl
  rw [← tab_snoc, hn] at ht
  exact ht
theorem Sz.neg {D Z : Nat} {r : Rat} (h : Sz D Z r) : Sz D Z (-r) := ⟨by rw [Rat.neg_den]; exact h.den, by
  have : ab (-r) = ab r := by unfold ab; split <;> split <;> grind
  rw [this]
  exact h.le⟩
theorem Shp.sz {rs : List Rat} {D Z b n : Nat} (h : Shp rs D Z b n) (k : Nat) : Sz D Z (cof rs k) := h.nrm.getD k
theorem Shp.sz1 {rs : List Rat} {D Z b n : Nat} (h : Shp rs D Z b n) : Sz D Z 1 := h.nrm.mem (by rw [h.tab]; simp)
theorem Shp.Z40 {rs : List Rat} {D Z b n : Nat} (h : Shp rs D Z b n) : Z ≤ 2 ^ 40 := Nat.le_trans h.hZ (Nat.pow_le_pow_right (by decide) h.hb)
theorem Shp.comp {rs : List Rat} {D Z b n : Nat} (h : Shp rs D Z b n) : CompOk n (cof rs) D 41 := by
  refine ⟨h.n1, by have := h.n8; omega, h.nrm.pos, Nat.lt_of_le_of_lt h.hD (pow_lt (by decide)), by decide, by decide, fun r hr => ?_, fun r hr => ?_⟩
  · obtain ⟨i, _, rfl⟩ := mem_tab hr
    exact (h.sz i).den
  · obtain ⟨i, _, rfl⟩ := mem_tab hr
    exact Nat.lt_of_le_of_lt (Nat.le_trans ((h.sz i).num h.nrm.pos) h.Z40) (pow_lt (by decide))
theorem Sz.s4 {D Z : Nat} {r : Rat} (h : Sz D Z r) (h0 : 0 < D) (hD : D ≤ 2 ^ 1000) (hZ : Z ≤ 2 ^ 1000) : Sm 4000 r := h.sm h0 (Nat.lt_of_le_of_lt hD (pow_lt (by decide))) (Nat.lt_of_le_of_lt hZ (pow_lt (by decide)))
/-! the columns -/
def num (n : Nat) (c : Nat → Rat) (k : Nat) : Rat := if k < n then c k else 1
def kf (n : Nat) (c : Nat → Rat) (k i : Nat) : Rat := if k < n then (if i = k then 1 else 0) else -c i
theorem kry_kf (n : Nat) (c : Nat → Rat) (k : Nat) : kry n c k = tabI n (kf n c k) := by
  unfold kry
  split
  · rename_i h
    rw [unit_tab]
    exact tab_ext fun i _ => by unfold kf; rw [if_pos h]
  · rename_i h
    exact tab_ext fun i _ => by unfold kf; rw [if_neg h]
def wf (n : Nat) (c : Nat → Rat) (k i : Nat) : Rat := if i < k ∧ k ≤ n then c i else 0
theorem wf_next {n k i : Nat} {c : Nat → Rat} (hk : k ≤ n) (hi : i < n) : wf n c k i + num n c k * kf n c k i = wf n c (k + 1) i := by
  unfold wf num kf
  by_cases h : k < n
  · rw [if_pos h, if_pos h]
    by_cases h2 : i = k
    · subst h2
      rw [if_neg (by omega), if_pos rfl, if_pos (by omega)]
      grind
    · rw [if_neg h2]
      by_cases h3 : i < k
      · rw [if_pos (by omega), if_pos (by omega)]; grind
      · rw [if_neg (by omega), if_neg (by omega)]; grind
  · rw [if_neg h, if_neg h, if_pos (by omega), if_neg (by omega)]
    grind
theorem wf_0 (n : Nat) (c : Nat → Rat) : tabI n (wf n c 0) = tabI n fun _ => 0 := tab_ext fun i _ => by unfold wf; rw [if_neg (by omega)]
theorem wf_end (n : Nat) (c : Nat → Rat) : tabI n (wf n c (n + 1)) = tabI n fun _ => 0 := tab_ext fun i _ => by unfold wf; rw [if_neg (by omega)]
/-! the rows -/
def rf (n : Nat) (c : Nat → Rat) : Nat → Nat → Rat
  | 0, i => if i = n - 1 then 1 else 0
  | k + 1, j => S n fun i => rf n c k i * cA n c i j
theorem rf_0 (n : Nat) (c : Nat → Rat) : unit n (n - 1) = tabI n (rf n c 0) := rfl
theorem rf_next (n : Nat) (c : Nat → Rat) (k : Nat) : rowMul (tabI n (rf n c k)) (comp n c) n = tabI n (rf n c (k + 1)) := rowMul_tab n n _ _
theorem kf_next {n j i : Nat} {c : Nat → Rat} (hj : j < n) (hi : i < n) : kf n c (j + 1) i = cA n c i j := by
  unfold kf cA
  by_cases h : j + 1 < n
  · rw [if_pos h]
    by_cases h2 : i = j + 1
    · rw [if_pos h2, if_pos h2.symm]
    · rw [if_neg h2, if_neg (Ne.symm h2), if_neg (by omega)]
  · rw [if_neg h, if_neg (by omega), if_pos (by omega)]
def dt (n : Nat) (c : Nat → Rat) (k j : Nat) : Rat := S n fun i => rf n c k i * kf n c j i
theorem dt_lt {n j : Nat} {c : Nat → Rat} (hj : j < n) (k : Nat) : dt n c k j = rf n c k j := by
  have e : dt n c k j = S n fun i => if i = j then rf n c k i else 0 := S_ext fun i _ => by
    unfold kf
    rw [if_pos hj]
    split <;> grind
  rw [e, S_delta, if_pos hj]
theorem dt_next {n j : Nat} {c : Nat → Rat} (hj : j < n) (k : Nat) : dt n c (k + 1) j = dt n c k (j + 1) := by
  rw [dt_lt hj]
  exact S_ext fun i hi => by rw [kf_next hj hi]
theorem dt_all {n : Nat} {c : Nat → Rat} : ∀ (k j : Nat), j + k ≤ n → dt n c k j = dt n c 0 (j + k)
  | 0, j, _ => rfl
  | k + 1, j, h => by
    rw [dt_next (by omega), dt_all k (j + 1) (by omega)]
    congr 1
    omega
theorem dt_0 {n : Nat} {c : Nat → Rat} (h : 1 ≤ n) (j : Nat) : dt n c 0 j = kf n c j (n - 1) := by
  have e : dt n c 0 j = S n fun i => if i = n - 1 then kf n c j i else 0 := S_ext fun i _ => by
    show (if i = n - 1 then (1 : Rat) else 0) * kf n c j i = _
    split <;> grind
  rw [e, S_delta, if_pos (by omega)]
theorem rf_first {n k : Nat} {c : Nat → Rat} (h : 1 ≤ n) (hk : k ≤ n) : rf n c k 0 = kf n c k (n - 1) := by
  rw [← dt_lt (by omega) k, dt_all k 0 (by omega), dt_0 h, Nat.zero_add]
def lf (n : Nat) (c : Nat → Rat) (k : Nat) : Rat := if k = n then c (n - 1) else 0
theorem lf_next {n k : Nat} {c : Nat → Rat} (h : 1 ≤ n) (hk : k ≤ n) : lf n c k + num n c k * rf n c k 0 = lf n c (k + 1) := by
  rw [rf_first h hk]
  unfold lf num kf
  by_cases h2 : k < n
  · rw [if_neg (by omega), if_pos h2, if_pos h2]
    by_cases h3 : k + 1 = n
    · rw [if_pos h3, if_pos (by omega)]
      have : k = n - 1 := by omega
      rw [this]
      grind
    · rw [if_neg h3, if_neg (by omega)]
      grind
  · have : k = n := by omega
    subst this
    rw [if_pos rfl, if_neg h2, if_neg h2, if_neg (by omega)]
    grind
/-! sizes of the rows -/
theorem Shp.cell {rs : List Rat} {D Z b n : Nat} (h : Shp rs D Z b n) (i j : Nat) : Sz D Z (cA n (cof rs) i j) := by
  unfold cA
  split
  · exact h.sz1
  · split
    · exact (h.sz i).neg
    · exact .zero
theorem Shp.rf {rs : List Rat} {D Z b n : Nat} (h : Shp rs D Z b n) : ∀ k j, Sz (D ^ k) ((n * Z) ^ k) (K46.rf n (cof rs) k j)
  | 0, j => by
    show Sz 1 1 (if j = n - 1 then 1 else 0)
    split
    · exact ⟨Nat.one_dvd _, by decide +kernel⟩
    · exact .zero
  | k + 1, j => by
    have h1 : Sz (D ^ k * D) (n * ((n * Z) ^ k * Z)) (K46.rf n (cof rs) (k + 1) j) := S_sz (Nat.mul_pos (Nat.pow_pos h.nrm.pos) h.nrm.pos) fun i _ => (h.rf k i).mul (Nat.pow_pos h.nrm.pos) h.nrm.pos (h.cell i j)
    rw [Nat.pow_succ, Nat.pow_succ]
    have e : (n * Z) ^ k * (n * Z) = n * ((n * Z) ^ k * Z) := by rw [Nat.mul_left_comm]
    rw [e]
    exact h1
theorem Shp.rowOk {rs : List Rat} {D Z b n : Nat} (h : Shp rs D Z b n) (k : Nat) (hk : k ≤ n) : RowOk (tabI n (K46.rf n (cof rs) k)) (K46.comp n (cof rs)) n := by
  have h0 := h.nrm.pos
  have h8 := h.n8
  have h1 := h.n1
  have l1 : (K46.comp n (cof rs)).length = n := tab_len
  have E0 : 0 < D ^ 9 := Nat.pow_pos h0
  have dv : D ∣ D ^ 9 := by
    have : D ^ 9 = D * D ^ 8 := by rw [Nat.pow_succ, Nat.mul_comm]
    rw [this]
    exact Nat.dvd_mul_right _ _
  refine rowOk_of (E := D ^ 9) (N := 500) E0 ?_ (by decide) (by rw [tab_len, l1]) (by rw [tab_len]; omega) (by rw [tab_len]; omega) (by omega) ⟨fun r hr => ?_, fun r hr => ?_⟩ fun t ht => ?_
  · exact Nat.lt_of_le_of_lt (Nat.pow_le_pow_left h.hD 9) (by rw [← Nat.pow_mul]; exact pow_lt (by decide))
  · obtain ⟨i, _, rfl⟩ := mem_tab hr
    exact Nat.dvd_trans (h.rf k i).den (Nat.pow_dvd_pow D (by omega))
  · obtain ⟨i, _, rfl⟩ := mem_tab hr
    have hz : n * Z ≤ 2 ^ 44 := Nat.le_trans (Nat.mul_le_mul (show n ≤ 2 ^ 4 by omega) h.Z40) (by rw [← Nat.pow_add]; exact Nat.le_refl _)
    have hp : (n * Z) ^ k ≤ 2 ^ (44 * k) := by rw [Nat.pow_mul]; exact Nat.pow_le_pow_left hz k
    exact Nat.lt_of_le_of_lt (Nat.le_trans ((h.rf k i).num (Nat.pow_pos h0)) hp) (pow_lt (by omega))
  · have hC := h.comp.rows t ht
    exact ⟨hC.1, fun r hr => Nat.dvd_trans (hC.2.den r hr) dv, fun r hr => Nat.lt_trans (hC.2.num r hr) (pow_lt (by decide))⟩
end K46
end
section
set_option Elab.async false
set_option linter.all false
set_option maxRecDepth 100000
set_option maxHeartbeats 2000000
set_option exponentiation.threshold 20000
/-! how long the text of a relation is (plain) -/
namespace K46
open PySem PySem.Spec L2 Pu RB RW
theorem int_len (i : Int) (h : i.natAbs < 10 ^ 20) : (PyData.int i).shown.length ≤ 21 := by
  have e : (PyData.int i).shown = Str.ofString (toString i) := rfl
  have hl : (Nat.repr i.natAbs).length ≤ 20 := (Nat.length_repr_le_iff (n := i.natAbs) (by decide : 0 < 20)).mpr h
  rw [e, PySem.ofString_length]
  cases i with
  | ofNat n =>
    show (Nat.repr n).length ≤ 21
    exact Nat.le_trans hl (by decide)
  | negSucc n =>
    show ("-" ++ Nat.repr (n + 1)).length ≤ 21
    rw [String.length_append]
    have : ("-" : String).length = 1 := by decide
    have h2 : (Nat.repr (n + 1)).length ≤ 20 := hl
    omega
theorem tup_len (ts : List Str) : (tupleText ts).length ≤ piled ts + 3 := by
  unfold tupleText
  rw [Str.length_append, Str.length_append]
  have h1 : ("(" : Str).length = 1 := by decide +kernel
  have h2 : ((if ts.length == 1 then ",)" else ")" : String) : Str).length ≤ 2 := by split <;> decide +kernel
  have h3 : (Str.join ", " ts).length ≤ piled ts := by
    by_cases h : ts = []
    · subst h; decide +kernel
    · have := join_length_add ts h; omega
  omega
theorem rat_len (r : Rat) (h1 : r.num.natAbs < 10 ^ 20) (h2 : r.den < 10 ^ 20) : (rat r).shown.length ≤ 50 := by
  have h := tup_len [(PyData.int r.num).shown, (PyData.int r.den).shown]
  have a := int_len r.num h1
  have b := int_len (r.den : Int) h2
  have e : (rat r).shown = tupleText [(PyData.int r.num).shown, (PyData.int r.den).shown] := rfl
  rw [e]
  rw [piled_cons, piled_cons, piled_nil] at h
  omega
theorem piled_rats : ∀ rs : List Rat, (∀ r ∈ rs, r.num.natAbs < 10 ^ 20 ∧ r.den < 10 ^ 20) → piled (PyData.shownAll (rs.map rat)) ≤ 52 * rs.length
  | [], _ => Nat.le_refl _
  | r :: rs, h => by
    have h1 := rat_len r (h r (List.mem_cons_self ..)).1 (h r (List.mem_cons_self ..)).2
    have h2 := piled_rats rs fun x hx => h x (List.mem_cons_of_mem _ hx)
    show piled ((rat r).shown :: PyData.shownAll (rs.map rat)) ≤ _
    rw [piled_cons, List.length_cons]
    omega
theorem row_len (rs : List Rat) (h : ∀ r ∈ rs, r.num.natAbs < 10 ^ 20 ∧ r.den < 10 ^ 20) (hl : rs.length ≤ 16) : (row rs).shown.length ≤ sizeLine := by
  have h1 := tup_len (PyData.shownAll (rs.map rat))
  have h2 := piled_rats rs h
  exact Nat.le_trans (Nat.le_trans h1 (show _ ≤ 1000 by omega)) (by decide)
theorem row_show : ∀ rs : List Rat, (∀ r ∈ rs, r.num.natAbs < 10 ^ 20 ∧ r.den < 10 ^ 20) → PyData.showableAll (rs.map rat) = true
  | [], _ => rfl
  | r :: rs, h => by
    have hr := h r (List.mem_cons_self ..)
    have big : 10 ^ 20 < 2 ^ 1920 := Nat.lt_of_lt_of_le (show 10 ^ 20 < 2 ^ 70 by decide) (Nat.pow_le_pow_right (by decide) (by decide))
    have l1 : r.num.natAbs.log2 < 1920 := log_lt (Nat.lt_trans hr.1 big) (by decide)
    have l2 : ((r.den : Int).natAbs).log2 < 1920 := log_lt (Nat.lt_trans (show (r.den : Int).natAbs < 10 ^ 20 from hr.2) big) (by decide)
    have ih := row_show rs fun x hx => h x (List.mem_cons_of_mem _ hx)
    show ((decide (r.num.natAbs.log2 < 1920) && (decide ((r.den : Int).natAbs.log2 < 1920) && true)) && PyData.showableAll (rs.map rat)) = true
    rw [ih, decide_eq_true l1, decide_eq_true l2]
    rfl
end K46
namespace K46
open PySem RB
theorem row_dict : ∀ rs : List Rat, PyData.hasDictAll (rs.map rat) = false
  | [] => rfl
  | r :: rs => by
    show ((rat r).hasDict || PyData.hasDictAll (rs.map rat)) = false
    rw [row_dict rs]
    rfl
theorem rats_depth : ∀ rs : List Rat, PyData.depthAll (rs.map rat) ≤ 1
  | [] => Nat.zero_le 1
  | r :: rs => Nat.max_le.mpr ⟨Nat.le_refl 1, rats_depth rs⟩
theorem row_depth (rs : List Rat) : (row rs).depth ≤ 100 := by
  have := rats_depth rs
  show PyData.depthAll (rs.map rat) + 1 ≤ 100
  omega
end K46
end
section
set_option Elab.async false
set_option linter.all false
set_option maxRecDepth 100000
set_option maxHeartbeats 2000000
/-! the law's def, run where the law is called: the guards there are known -/
namespace At
open PySem PySem.Spec PySem.Calls L2
open PyProof.Rows
section
variable {P : Program} {w : World} {K : PySem.W.Frag} {mg : Str → Option Value} {base : Heap} {k : Nat} {f : Addr} {fd : FuncData} {N ps : List Str} {x qual : Str} {st : Stmt} {vs : List V} {us : List Value} {Q : VK} {s : Shared} {H : Hp} {args : Args}
theorem run_at (F : Fun K x qual st f fd) (S : FnScope N ps (defScope st)) (hl : vs.length = ps.length) (hr : Room (k + 1) callerA) (e0 : Env0 P w K mg base callerA [] s H) (hb : BindsTo s fd args (ps.zip us)) (r : Vals vs us)
    (body : ∀ cdv : Value, Room k (callerA.deeper (envOfC qual (defScope st) s.heap.objs.size f cdv)) → ∃ t,
      PSs (cxOf CX0 P w K mg base N qual (defScope st) f cdv callerA [] s H E0).nox (defBody st) t ∧
      t { nx := fun _ H' => Q .non H', rt := Q } (start N vs) H) :
    codeAny (model P w) callerA (.call (.ref f) args) (CR CX0 [] P w H s Q E0) s := by
  obtain ⟨oc, od, kV, doc, pm, an, cdv, ct, osl, hfd, look, code⟩ := F.ex
  subst hfd
  obtain ⟨t, run, post⟩ := body cdv (hr.deeper _)
  have stay : ∀ b o, base.get? b = some o → s.heap.get? b = some o := fun b o e => (e0.bs b o e).1
  have KI : K.In s.heap := e0.mod.kin.keeps stay
  have nolim := Heap.NoLimit.keeps e0.mod.nolimit stay
  have kinds : ∀ y ∈ ps.zip us, (defScope st).names.lookup y.1 = some .local ∨ ((defScope st).names.lookup y.1 = some .cell ∧ ((cellsFrom (s.heap.objs.size + 1) (defScope st).names []).lookup y.1).isSome = true) := by
    rintro ⟨n, u⟩ hy
    refine (S.par n (List.of_mem_zip hy).1).imp (fun q => q) fun q => ⟨q, ?_⟩
    exact PySem.W.cellsFrom_some _ _ _ (.inl q)
  refine codeAny_call_function hr.depth (KI _ _ look) rfl S.co S.gen rfl (PySem.W.codeRec_of KI code) (hb _ _ _ _ ?_)
  refine wpAny_newFunctionEnv_cells S.kind kinds fun env he s1 ent => ?_
  cases he
  refine ⟨nolim.keeps ent.toInCall.keep, codeAny_func ?_⟩
  have I0 : Inv (cxOf CX0 P w K mg base N qual (defScope st) f cdv callerA [] s H E0) [] (start N vs) H s1 :=
    inv_start S hr.hd e0 hl r ent
  refine wpAny_mono (run.nox.run [] s1 (start N vs) H _ I0 post) ?_ fun e s' z => z
  rintro fl s' z
  cases fl
  case next =>
    obtain ⟨σ', H', J, q⟩ := z
    exact ⟨.non, H', J.os, J.bare, J.base, J.hok, rfl, q⟩
  case ret u =>
    obtain ⟨v, σ', H', J, rv, q⟩ := z
    exact ⟨v, H', J.os, J.bare, J.base, J.hok, rv, q⟩
  case brk => obtain ⟨_, _, _, q⟩ := z; cases q
  case cont => obtain ⟨_, _, _, q⟩ := z; cases q
end
end At
end
section
set_option Elab.async false
set_option linter.all false
set_option maxRecDepth 100000
set_option maxHeartbeats 2000000
/-! from the script's list to the law's run, at the law's caller -/
namespace At
open PySem PySem.Spec PySem.Calls L2
open PyProof.Rows
section
variable {P : Program} {w : World} {K : PySem.W.Frag} {mg mb : Str → Option Value} {fa a : Addr} {s₁ : Shared} {vs : List Value} {ns : List Int}
abbrev Yes : VK := fun v _ => v = .bl true
/-- the run that is asked of the law's def -/
abbrev Runs (P : Program) (w : World) (K : PySem.W.Frag) (mg : Str → Option Value) (fa a : Addr) (ns : List Int) (s : Shared) : Prop :=
  ∀ (base : Heap) (H : Hp), Env0 P w K mg base callerA [] s H → SqL K H a (ns.map V.int) →
    codeAny (model P w) callerA (.call (.ref fa) ⟨[.ref a], []⟩) (CR CX0 [] P w H s Yes E0) s
/-- what stands at one place alone -/
def At1 (a : Addr) (u : HO) : Hp := fun b => if b = a then some u else none
theorem at1_self {a : Addr} {u : HO} : At1 a u a = some u := if_pos rfl
theorem at1_ne {a b : Addr} {u : HO} (h : b ≠ a) : At1 a u b = none := if_neg h
theorem env_at (KX : K.In s₁.heap) (hns : s₁.heap.Ns mainGlobals mg) (hb : s₁.heap.Ns builtinsNs mb) (hbb : ∀ x : Str, x ≠ "__name__" → mb x = bootBuiltins x) (hlim : s₁.heap.NoLimit) (hg : s₁.gens = #[])
    {H : Hp} (ok : HOk P w H s₁.heap) (noK : ∀ b u, K.lookup b = some u → H b = none) (noD : ∀ b o es ep, s₁.heap.get? b = some o → o.data = .dict es ep → H b = none) : Env0 P w K mg (hidT s₁.heap H) callerA [] s₁ H := by
  have ns2 : ∀ {b : Addr} {m : Str → Option Value}, s₁.heap.Ns b m → (hidT s₁.heap H).Ns b m := by
    rintro b m ⟨o, es, ep, e, d, r⟩
    exact ⟨o, es, ep, hidT_get e (noD b o es ep e d), d, r⟩
  obtain ⟨mc, l1, l2⟩ := hlim
  have kin : K.In (hidT s₁.heap H) := fun b o e => hidT_get (KX b o e) (noK b o e)
  refine ⟨rfl, ⟨kin, ns2 hns, ⟨mb, ns2 hb, hbb⟩, mc, ns2 l1, l2⟩, fun b o e => of_hidT e, Nat.le_of_eq (hidT_size _ _), trivial, ?_, ok, .of_eq hg⟩
  intro b hb
  cases hb
/-- what the run leaves -/
theorem left_at {H : Hp} (ok : HOk P w H s₁.heap) (fz : ∀ b u, H b = some u → ∃ o xs, u = .frz o (.lst xs)) {r : Except Value (Flow)} {s' : Shared} (h : CR CX0 [] P w H s₁ Yes E0 r s') :
    r = .ok (.ret (.bool true)) ∧ OldK s₁.heap s'.heap ∧ s'.os = s₁.os ∧ AllBare s'.gens := by
  rcases r with e | fl
  · exact (show False from h).elim
  cases fl
  case next => exact (show False from h).elim
  case brk => exact (show False from h).elim
  case cont => exact (show False from h).elim
  case ret u =>
    obtain ⟨v, H', os, bare, un, ok', rv, hv⟩ := h
    cases (show v = .bl true from hv)
    cases (show u = Value.bool true from rv)
    refine ⟨rfl, .of_keep fun b o e => ?_, os, bare⟩
    rcases hb : H b with _ | u
    · exact un.keep b o e hb (by intro z; cases z) (by simp)
    · obtain ⟨ob, xs, rfl⟩ := fz b u hb
      have e1 := (ok b _ hb).1
      have e2 := (ok' b _ (un.frzs b ob _ hb)).1
      rw [e] at e1
      cases e1
      exact e2
theorem call_at (KX : K.In s₁.heap) (hns : s₁.heap.Ns mainGlobals mg) (hb : s₁.heap.Ns builtinsNs mb) (hbb : ∀ x : Str, x ≠ "__name__" → mb x = bootBuiltins x) (hlim : s₁.heap.NoLimit) (hg : s₁.gens = #[])
    (ha : s₁.heap.get? a = some { cls := .type "list", data := .seq vs.toArray }) (hi : IntsAre vs ns) (hl : ns.length ≤ sizeLine) (R : Runs P w K mg fa a ns s₁) :
    codeAny (model P w) callerA (.call (.ref fa) ⟨[.ref a], []⟩)
      (fun r s' => r = .ok (.ret (.bool true)) ∧ OldK s₁.heap s'.heap ∧ s'.os = s₁.os ∧ AllBare s'.gens) s₁ := by
  have rv := vals_ints hi
  rcases hk : K.lookup a with _ | o
  · -- not known: it is tracked, frozen
    let u : HO := .frz { cls := .type "list", data := .seq vs.toArray } (.lst (ns.map V.int))
    have ok : HOk P w (At1 a u) s₁.heap := by
      intro b z e
      by_cases hb : b = a
      · subst hb
        cases at1_self.symm.trans e
        exact ⟨ha, by rw [List.length_map]; exact hl, vs, _, rv, ha⟩
      · cases (at1_ne hb).symm.trans e
    refine codeAny_mono (R _ _ (env_at KX hns hb hbb hlim hg ok (fun b z e => ?_) fun b o es ep e d => ?_) (.inl (.inr ⟨_, at1_self⟩))) fun r s' h => left_at ok (fun b z e => ?_) h
    · exact at1_ne (by intro q; subst q; rw [hk] at e; cases e)
    · refine at1_ne ?_
      intro q
      subst q
      cases ha.symm.trans e
      cases (show Data.seq vs.toArray _ = Data.dict es ep from d)
    · by_cases hb : b = a
      · subst hb
        cases at1_self.symm.trans e
        exact ⟨_, _, rfl⟩
      · cases (at1_ne hb).symm.trans e
  · -- known
    cases ha.symm.trans (KX a o hk)
    have ok : HOk P w (fun _ => none) s₁.heap := by
      intro b z e
      cases e
    refine codeAny_mono (R _ (fun _ => none) (env_at KX hns hb hbb hlim hg ok (fun _ _ _ => rfl) fun _ _ _ _ _ _ => rfl) (.inr ⟨_, vs.toArray, _, hk, rfl, rfl, rfl, ?_, by simpa using rv⟩)) fun r s' h => left_at ok (fun b z e => by cases e) h
    rw [List.size_toArray, hi.length]
    exact hl
end
/-- the goal that k_head leaves -/
theorem walk_at {l : PySem.W.OpenLaw} {n : Nat} {q : Program} {loose : List Str} {XP : (Str → Option Value) → Heap → Prop} {YP : World → Heap → Prop} {d : DefRec} {K : Params → PySem.W.Frag}
    (hn : l.most = some n) (hz : n ≤ sizeLine) (hdf : d.params.defaults = []) (hY : ∀ (w : World) (h : Heap), YP w h → (K w.params).In h)
    (R : ∀ (w : World) (mg : Str → Option Value) (fa a : Addr) (ns : List Int) (s : Shared), (K w.params).In s.heap → s.heap.Ns mainGlobals mg → mg d.name = some (.ref fa) → ns.length ≤ n → Runs l.prog w (K w.params) mg fa a ns s) :
    PySem.W.WalkO q loose XP YP l.row.toRowW d [] fun f vs => PySem.call f vs := by
  refine Att.attach_call hn hdf ?_
  intro w s₀ s₁ mg mb fa o pm cd doc a vs ns G Y ho hd hcd hmg hobj hints hlen hg
  have KX := hY w _ Y
  exact call_at KX G.T.g G.T.b G.T.builtins G.T.nolimit hg hobj hints (Nat.le_trans hlen hz) (R w mg fa a ns s₁ KX G.T.g hmg hlen)
end At
end
section
set_option Elab.async false
set_option linter.all false
set_option maxRecDepth 100000
/-! the words that are due (plain) -/
namespace K46
open PySem PySem.Spec L2 Pu RB RW SR1
open SC (Kd Fac)
abbrev wordsOf (fs : List (List Rat × Str)) : List PyData := fs.map fun p => .str p.2
def dueB (fs : List (List Rat × Str)) : Bool := !((wordsOf fs).any fun z => PyData.eqv z (.str "rim")) && (!((wordsOf fs).any fun z => PyData.eqv z (.str "out")) && decide (((wordsOf fs).countP fun z => PyData.eqv z (.str "one")) < 2))
theorem plain_words : ∀ fs : List (List Rat × Str), PyData.plainAll (wordsOf fs) = true
  | [] => rfl
  | p :: fs => plain_words fs
theorem kd_eqv (a k : Kd) : PyData.eqv (.str (kdS a)) (.str (kdS k)) = (a == k) := by
  cases a <;> cases k <;> decide +kernel
abbrev pairs (gs : List Fac) : List (List Rat × Str) := gs.map fun g => (g.nums, kdS g.kd)
theorem any_kd (k : Kd) : ∀ gs : List Fac, ((wordsOf (pairs gs)).any fun z => PyData.eqv z (.str (kdS k))) = (gs.map (·.kd)).contains k
  | [] => rfl
  | g :: gs => by
    have ih := any_kd k gs
    show (PyData.eqv (.str (kdS g.kd)) (.str (kdS k)) || (wordsOf (pairs gs)).any fun z => PyData.eqv z (.str (kdS k))) = _
    rw [ih, kd_eqv, List.map_cons, List.contains_cons]
    congr 1
    cases g.kd <;> cases k <;> rfl
theorem count_kd (k : Kd) : ∀ gs : List Fac, ((wordsOf (pairs gs)).countP fun z => PyData.eqv z (.str (kdS k))) = (gs.map (·.kd)).count k
  | [] => rfl
  | g :: gs => by
    have ih := count_kd k gs
    show List.countP _ (PyData.str (kdS g.kd) :: wordsOf (pairs gs)) = _
    rw [List.countP_cons, ih, List.map_cons, List.count_cons, kd_eqv]
theorem due_eq (gs : List Fac) : dueB (pairs gs) = SC.due gs := by
  unfold dueB SC.due
  have h1 := any_kd .rim gs
  have h2 := any_kd .out gs
  have h3 := count_kd .one gs
  show (!((wordsOf (pairs gs)).any fun z => PyData.eqv z (.str (kdS .rim))) && (!((wordsOf (pairs gs)).any fun z => PyData.eqv z (.str (kdS .out))) && decide (((wordsOf (pairs gs)).countP fun z => PyData.eqv z (.str (kdS .one))) < 2))) = _
  rw [h1, h2, h3]
theorem Fcs.due {fs : List (List Rat × Str)} (h : Fcs fs) : SC.settle (K46.prods fs) = dueB fs := by
  obtain ⟨gs, e, hg⟩ := facs_of h.gd
  rw [h.settle e hg, e]
  exact (due_eq gs).symm
theorem str_eqv (x : Str) : PyData.eqv (.str x) (.str x) = true := by simp [PyData.eqv]
end K46
end
section
set_option Elab.async false
set_option linter.all false
set_option maxRecDepth 100000
set_option maxHeartbeats 2000000
set_option exponentiation.threshold 20000
/-! sizes in the law's two sums (plain) -/
namespace K46
open PySem PySem.Spec L2 Pu RB RW SR1
section
variable {rs : List Rat} {D Z b n : Nat}
theorem Shp.D1 (h : Shp rs D Z b n) : D ≤ 2 ^ 1000 := Nat.le_trans h.hD (Nat.pow_le_pow_right (by decide) (by decide))
theorem Shp.Z1 (h : Shp rs D Z b n) : Z ≤ 2 ^ 1000 := Nat.le_trans h.Z40 (Nat.pow_le_pow_right (by decide) (by decide))
theorem Shp.numS (h : Shp rs D Z b n) (k : Nat) : Sz D Z (num n (cof rs) k) := by
  unfold num
  split
  · exact h.sz k
  · exact h.sz1
theorem Shp.kfS (h : Shp rs D Z b n) (k i : Nat) : Sz D Z (kf n (cof rs) k i) := by
  unfold kf
  split
  · split
    · exact h.sz1
    · exact .zero
  · exact (h.sz i).neg
theorem Shp.smN (h : Shp rs D Z b n) (k : Nat) : Sm 4000 (num n (cof rs) k) := (h.numS k).s4 h.nrm.pos h.D1 h.Z1
theorem Shp.smK (h : Shp rs D Z b n) (k i : Nat) : Sm 4000 (kf n (cof rs) k i) := (h.kfS k i).s4 h.nrm.pos h.D1 h.Z1
theorem Shp.smW (h : Shp rs D Z b n) (k i : Nat) : Sm 4000 (wf n (cof rs) k i) := by
  unfold wf
  split
  · exact (h.sz i).s4 h.nrm.pos h.D1 h.Z1
  · exact (Sz.zero (D := D) (Z := Z)).s4 h.nrm.pos h.D1 h.Z1
theorem Shp.smP (h : Shp rs D Z b n) (k i : Nat) : Sm 4000 (num n (cof rs) k * kf n (cof rs) k i) :=
  ((h.numS k).mul h.nrm.pos h.nrm.pos (h.kfS k i)).s4 (Nat.mul_pos h.nrm.pos h.nrm.pos)
    (Nat.le_trans (Nat.mul_le_mul h.hD h.hD) (by rw [← Nat.pow_add]; exact Nat.pow_le_pow_right (by decide) (by decide)))
    (Nat.le_trans (Nat.mul_le_mul h.Z40 h.Z40) (by rw [← Nat.pow_add]; exact Nat.pow_le_pow_right (by decide) (by decide)))
theorem Shp.smL (h : Shp rs D Z b n) (k : Nat) : Sm 4000 (lf n (cof rs) k) := by
  unfold lf
  split
  · exact (h.sz (n - 1)).s4 h.nrm.pos h.D1 h.Z1
  · exact (Sz.zero (D := D) (Z := Z)).s4 h.nrm.pos h.D1 h.Z1
theorem Shp.nZ (h : Shp rs D Z b n) (k : Nat) : (n * Z) ^ k ≤ 2 ^ (44 * k) := by
  have h8 := h.n8
  have hz : n * Z ≤ 2 ^ 44 := Nat.le_trans (Nat.mul_le_mul (show n ≤ 2 ^ 4 by omega) h.Z40) (by rw [← Nat.pow_add]; exact Nat.le_refl _)
  rw [Nat.pow_mul]
  exact Nat.pow_le_pow_left hz k
theorem Shp.Dk (h : Shp rs D Z b n) (k : Nat) : D ^ k ≤ 2 ^ (40 * k) := by
  rw [Nat.pow_mul]
  exact Nat.pow_le_pow_left h.hD k
theorem Shp.smR (h : Shp rs D Z b n) (k : Nat) (hk : k ≤ n) (j : Nat) : Sm 4000 (K46.rf n (cof rs) k j) := by
  have h8 := h.n8
  exact (h.rf k j).s4 (Nat.pow_pos h.nrm.pos) (Nat.le_trans (h.Dk k) (Nat.pow_le_pow_right (by decide) (by omega))) (Nat.le_trans (h.nZ k) (Nat.pow_le_pow_right (by decide) (by omega)))
theorem Shp.smQ (h : Shp rs D Z b n) (k : Nat) (hk : k ≤ n) (j : Nat) : Sm 4000 (num n (cof rs) k * K46.rf n (cof rs) k j) := by
  have h8 := h.n8
  exact ((h.numS k).mul h.nrm.pos (Nat.pow_pos h.nrm.pos) (h.rf k j)).s4 (Nat.mul_pos h.nrm.pos (Nat.pow_pos h.nrm.pos))
    (Nat.le_trans (Nat.mul_le_mul h.hD (h.Dk k)) (by rw [← Nat.pow_add]; exact Nat.pow_le_pow_right (by decide) (by omega)))
    (Nat.le_trans (Nat.mul_le_mul h.Z40 (h.nZ k)) (by rw [← Nat.pow_add]; exact Nat.pow_le_pow_right (by decide) (by omega)))
end
theorem eqv_rats : ∀ rs : List Rat, PyData.eqvAll (rs.map rat) (rs.map rat) = true
  | [] => rfl
  | r :: rs => by
    show PyData.eqvAll (rat r :: rs.map rat) (rat r :: rs.map rat) = true
    rw [PyData.eqvAll, rat_eqv, eqv_rats rs]
    simp
theorem eqv_row (rs : List Rat) : PyData.eqv (RB.row rs) (RB.row rs) = true := by
  show PyData.eqv (.tuple _) (.tuple _) = true
  rw [PyData.eqv]
  exact eqv_rats rs
end K46
end
section
set_option Elab.async false
set_option linter.all false
set_option maxRecDepth 100000
set_option maxHeartbeats 4000000
set_option exponentiation.threshold 20000
namespace K46
open PySem PySem.Spec L2 Pu RB RW SR1
open SC (Kd Fac)
open PyProof.Rows (envOfC)
/-! the law -/
abbrev s38 : Stmt := top 38
abbrev n38 : List Str := ["script", "source", "lap", "factors", "due", "begin", "told", "number", "numbers", "words", "table", "many", "here", "whole", "row", "late", "one", "word", "a", "b"]
theorem sc38 : FnScope n38 ["script"] (defScope s38) := ⟨rfl, rfl, rfl, by decide +kernel, rfl, by decide +kernel, by decide +kernel⟩
/-- the defs that the law calls -/
structure Dfs (P : Program) (w : World) (K : PySem.W.Frag) (mg : Str → Option Value) (base : Heap) : Prop where
  src : Df P w K mg base 1 "_law_source" (spN K (cSource K))
  fac : Df P w K mg base 3 "_law_factors" (spO K cDraw)
  tog : DP P w K mg base 3 "_law_put_together" cTogether
  set : DP P w K mg base 4 "is_settling" cSettle
  isr : DP P w K mg base 2 "is_ratio" cIsRatio
  cmp : DP P w K mg base 4 "_law_companion" cComp
  unit : DP P w K mg base 1 "unit_rows" cUnit
  told : DP P w K mg base 5 "relation_told" cTold
  col : DP P w K mg base 3 "column_led" cColLed
  sum : DP P w K mg base 2 "ratio_sum" cSum
  prod : DP P w K mg base 2 "ratio_product" cProd
  row : DP P w K mg base 2 "row_led" cRowLed
theorem num_at {n t : Nat} {c : Nat → Rat} {rs : List Rat} {r : Rat} (hrs : rs = tabI n c ++ [1]) (hk : rs[t]? = some r) (ht : t ≤ n) : r = num n c t := by
  rw [hrs, List.getElem?_append, tab_len, tab_get] at hk
  unfold num
  by_cases q : t < n
  · rw [if_pos q, if_pos q] at hk
    rw [if_pos q]
    exact (Option.some.inj hk).symm
  · have : t = n := by omega
    subst this
    rw [if_neg q, Nat.sub_self] at hk
    rw [if_neg q]
    exact (Option.some.inj hk).symm
theorem no_filter (rs : List Rat) : (rs.filter fun _ => false) = [] := List.filter_eq_nil_iff.mpr fun _ _ => by simp
section
variable {P : Program} {w : World} {K : PySem.W.Frag} {mg : Str → Option Value} {base : Heap} {f : Addr}
abbrev xL (P : Program) (w : World) (K : PySem.W.Frag) (mg : Str → Option Value) (base : Heap) (f : Addr) (cdv : Value) (s : Shared) (H : Hp) : Cx := (cxOf CX0 P w K mg base n38 "law" (defScope s38) f cdv callerA [] s H E0).nox
/-- the body of a lap -/
def forBody : Stmt → List Stmt
  | .For _ _ body _ _ => body
  | _ => []
abbrev lapBody : List Stmt := forBody ((defBody s38).getD 1 (.Pass ⟨0, 0, 0, 0⟩))
theorem ok_lap (T : Txt K mg) (D : Dfs P w K mg base) (cdv : Value) (s0 : Shared) (H : Hp) (hr : Room 5 (xL P w K mg base f cdv s0 H).A) (a : Addr) (ns : List Int) (p l : Addr) (s : Src) (lap : PyData) (rest : List Stmt) (Q : List Sv → Oc → Prop) :
    SR (xL P w K mg base f cdv s0 H) [.own (scrA K a ns), .own (srcA p l s), .dat lap, .non, .non, .non, .non, .non, .non, .non, .non, .non, .non, .non, .non, .non, .non, .non, .non, .non] lapBody
      (QL (xL P w K mg base f cdv s0 H) rest Q fun e => e = [.own (scrA K a ns), .own (srcA p l (draw s).2), .non, .non, .non, .non, .non, .non, .non, .non, .non, .non, .non, .non, .non, .non, .non, .non, .non, .non]) := by
  have nd := sc38.nd
  have hr1 : Room 1 (xL P w K mg base f cdv s0 H).A := hr.mono (by decide)
  have hr2 : Room 2 (xL P w K mg base f cdv s0 H).A := hr.mono (by decide)
  have hr3 : Room 3 (xL P w K mg base f cdv s0 H).A := hr.mono (by decide)
  have hr4 : Room 4 (xL P w K mg base f cdv s0 H).A := hr.mono (by decide)
  have hF := fcs_draw s
  obtain ⟨D', Z, b, n, sh⟩ := hF.shape
  have hC := sh.comp
  have hrs := sh.tab
  -- factors
  refine as 3 (ev_callO (i := 1) (Φ := srcA p l s) D.fac hr3 rfl (Or.inl rfl) ⟨_, rfl⟩ ea_nil rfl (fun Ψ h => by cases h; exact fix) ⟨p, l, s, rfl, rfl, rfl, rfl⟩) ?_
  generalize draw s = dr at hF sh hC hrs ⊢
  obtain ⟨fs, s'⟩ := dr
  have hF : Fcs fs := hF
  have sh : Shp (prods fs) D' Z b n := sh
  -- numbers, words
  refine sr_par (i := 8) (j := 9) rfl nd rfl rfl (by decide) rfl rfl (egs_cons (EV.eg (call1 D.tog hr3 (v 3) ⟨fs, rfl, hF.facs, rfl⟩)) (egs_cons (EV.eg (EL.ev (LC.l (lc n38 (defScope s38) [("late", 15), ("word", 17)] (.t2 (.nm 15) (.nm 17)) fs facD (fun q => .str q.2) (fun q => [.own (scrA K a ns), .own (srcA p l s'), .dat lap, .dat (.list (fs.map facD)), .non, .non, .non, .non, .non, .non, .non, .non, .non, .non, .non, .dat (RB.row q.1), .non, .dat (.str q.2), .non, .non])
    (iv_list (v 3)) (room (by have := hF.four; omega)) (fun _ => pt2 (pn 15) (pn 17)) fun q _ bb => v 17)))) egs_nil)) ?_
  -- due
  have dp : ∀ x : Str, (PyData.str x).depth ≤ 100 := fun _ => Nat.zero_le 100
  refine as 4 (EV.to (ev_and (ev_notIn (da := .str "rim") (xs := wordsOf fs) hr ev_str (v 9) (.l _) rfl (plain_words fs) (dp _)) fun _ => ev_and (ev_notIn (da := .str "out") (xs := wordsOf fs) hr ev_str (v 9) (.l _) rfl (plain_words fs) (dp _)) fun _ => ev_one (ev_lt (ev_count (ap := ⟨0, 0, 0, 0⟩) (d := .str "one") (xs := wordsOf fs) hr (v 9) ev_str (plain_words fs) rfl (dp _)) ev_int)) (show _ = PyData.bool (dueB fs) from ?_)) ?_
  · unfold dueB
    congr 3
    exact decide_eq_decide.mpr (by omega)
  have gd : (xL P w K mg base f cdv s0 H).A.guards = some [] := rfl
  have bl : ∀ t : Bool, (PyData.bool t).shown.length ≤ sizeLine := fun t => by cases t <;> exact Nat.le_of_ble_eq_true rfl
  -- is_settling(numbers)
  refine sr_if (ba := false) (ET.to (et_neP hr (ev_repr hr gd T.repr (call1 D.set hr4 (v 8) ⟨prods fs, rfl, sh.set, rfl⟩) rfl rfl (Nat.zero_le _) (bl _)) (ev_repr hr gd T.repr (v 4) rfl rfl (Nat.zero_le _) (bl _)) rfl rfl (.inl (dp _))) (by rw [hF.due, str_eqv]; rfl)) nofun fun _ => sr_nil ?_
  -- every number is a ratio
  refine sr_if (ba := false) (ET.to (et_neP hr (EV.to (EL.ev (LC.lI (lcIf n38 (defScope s38) [("one", 16)] (.nm 16) (prods fs) rat rat (fun _ => false) (fun r => [.own (scrA K a ns), .own (srcA p l s'), .dat lap, .dat (.list (fs.map facD)), .dat (.bool (dueB fs)), .non, .non, .non, .dat (RB.row (prods fs)), .dat (.list (wordsOf fs)), .non, .non, .non, .non, .non, .non, .dat (rat r), .non, .non, .non])
    (iv_tup (v 8)) (room (by rw [sh.len]; have := sh.n8; omega)) (fun _ => pn 16) (fun r _ bb => ?_) fun r _ hb bb => v 16))) (show PyData.list (((prods fs).filter fun _ => false).map rat) = PyData.list [] by rw [no_filter]; rfl)) (EL.ev (el_lst ea_nil)) rfl rfl (.inl (show 1 ≤ 100 by decide))) rfl) nofun fun _ => sr_nil ?_
  · refine ET.to (b' := false) (et_isnt (p1 := true) (ba := true) (bb := true) ?_ ev_bl) rfl
    exact call1 D.isr hr2 (v 16) ⟨r, rfl, rfl⟩
  -- table, many
  have hrs : prods fs = tabI n (cof (prods fs)) ++ [1] := hrs
  have hC : CompOk n (cof (prods fs)) D' 41 := hC
  have hn : (((prods fs).map rat).length : Int) - 1 = (n : Int) := by rw [List.length_map, sh.len]; omega
  refine sr_par (i := 10) (j := 11) rfl nd rfl rfl (by decide) rfl rfl (egs_cons (EV.eg (call1 (d1 := tab (comp n (cof (prods fs)))) D.cmp hr4 (v 8) ⟨n, cof (prods fs), D', 41, by rw [← hrs], hC, rfl⟩)) (egs_cons (EV.eg (EV.to (ev_sub (ev_lenT T.len (v 8)) ev_int) (congrArg PyData.int hn))) egs_nil)) ?_
  -- begin, told
  refine as 5 (d := RB.row (unit n 0)) (ev_ixT (ds := (units n).map RB.row) (i := 0) (call1 D.unit hr1 (v 11) ⟨n, rfl, hC.n2, rfl⟩) ev_int ?_) ?_
  · have h0 : (units n)[0]? = some (unit n 0) := by
      show (tabI n (unit n))[0]? = _
      rw [tab_get, if_pos (show 0 < n from hC.n1)]
    exact atI_at h0
  refine as 6 (call2 D.told hr (v 10) (v 5) ⟨n, cof (prods fs), D', 41, rfl, hC, rfl⟩) ?_
  rw [← hrs]
  -- told shows as numbers
  have small : ∀ r ∈ prods fs, r.num.natAbs < 10 ^ 20 ∧ r.den < 10 ^ 20 := fun r hr => by
    have hz := sh.nrm.mem hr
    have e1 := Nat.le_trans (hz.num sh.nrm.pos) sh.Z40
    have e2 := Nat.le_trans (Nat.le_of_dvd sh.nrm.pos hz.den) sh.hD
    have e3 : 2 ^ 40 < 10 ^ 20 := by decide
    exact ⟨Nat.lt_of_le_of_lt e1 e3, Nat.lt_of_le_of_lt e2 e3⟩
  have rsh : (RB.row (prods fs)).showable = true := row_show _ small
  have rln : (RB.row (prods fs)).shown.length ≤ sizeLine := row_len _ small (by rw [sh.len]; have := sh.n8; omega)
  have rdc : (RB.row (prods fs)).hasDict = false := row_dict _
  have rdp : (RB.row (prods fs)).depth ≤ 100 := row_depth _
  refine sr_if (ba := false) (ET.to (EW.et (ew_or (et_neP hr (ev_repr hr gd T.repr (v 6) rsh rdc rdp rln) (ev_repr hr gd T.repr (v 8) rsh rdc rdp rln) rfl rfl (.inl (dp _))) fun _ => ew_or1 (et_neP hr (ev_repr hr gd T.repr (call1 D.set hr4 (v 6) ⟨prods fs, rfl, sh.set, rfl⟩) rfl rfl (Nat.zero_le _) (bl _)) (ev_repr hr gd T.repr (v 4) rfl rfl (Nat.zero_le _) (bl _)) rfl rfl (.inl (dp _))))) (by rw [hF.due, str_eqv, str_eqv]; rfl)) nofun fun _ => sr_nil ?_
  -- here, whole
  have sN := sh.smN
  have sK := sh.smK
  have sW := sh.smW
  have sP := sh.smP
  have sL := sh.smL
  have sR := sh.smR
  have sQ := sh.smQ
  have rOk := sh.rowOk
  generalize hc : cof (prods fs) = c at hC hrs sN sK sW sP sL sR sQ rOk ⊢
  have hn2 := hC.n2
  refine sr_par (i := 12) (j := 13) rfl nd rfl rfl (by decide) rfl rfl (egs_cons (EV.eg (v 5)) (egs_cons (EV.eg (EV.to (ev_tupleL T.tuple (EL.ev (EL.to (el_rep (EL.ev (el_lst (ea1 (EV.to (ev_tup (ea2 ev_int ev_int)) (show _ = rat 0 from rfl))))) (v 11) (by omega) (by omega)) (by rw [Int.toNat_natCast, rep_tab])))) (show _ = RB.row (tabI n fun _ => 0) from rfl))) egs_nil)) ?_
  have kry0 : kry n c 0 = unit n 0 := by unfold kry; rw [if_pos (show 0 < n from hC.n1)]
  refine fr (.nm 7) (fun t e => ∃ h, (t ≤ n → h = RB.row (kry n c t)) ∧ e = [.own (scrA K a ns), .own (srcA p l s'), .dat lap, .dat (.list (fs.map facD)), .dat (.bool (dueB fs)), .dat (RB.row (unit n 0)), .dat (RB.row (prods fs)), .non, .dat (RB.row (prods fs)), .dat (.list (wordsOf fs)), .dat (tab (comp n c)), .dat (.int (n : Int)), .dat h, .dat (RB.row (tabI n (wf n c t))), .non, .non, .non, .non, .non, .non]) (iv_tup (v 8)) (pn 7) ⟨RB.row (unit n 0), fun _ => by rw [kry0], by rw [wf_0]; rfl⟩ (fun t dd e hd he => ?_) (fun e he => ?_)
  · obtain ⟨h, hh, rfl⟩ := he
    obtain ⟨r, hk, rfl⟩ := map_at hd
    have ht : t ≤ n := by
      have := (List.getElem?_eq_some_iff.mp hk).1
      rw [sh.len] at this
      omega
    have hr0 : r = num n c t := num_at hrs hk ht
    have hh := hh ht
    subst hr0 hh
    refine ⟨_, rfl, ?_⟩
    have ez : List.zipWith (fun x y => PyData.tuple [x, y]) ((tabI n (wf n c t)).map rat) ((kry n c t).map rat) = (List.range n).map fun i => PyData.tuple [rat (wf n c t i), rat (kf n c t i)] := by
      rw [kry_kf, List.zipWith_map]
      exact tab_zip
    refine as 13 (d := RB.row (tabI n (wf n c (t + 1)))) (EV.to (ev_tupleL T.tuple (EL.ev (LC.l (lc n38 (defScope s38) [("a", 18), ("b", 19)] (.t2 (.nm 18) (.nm 19)) (List.range n) (fun i => PyData.tuple [rat (wf n c t i), rat (kf n c t i)]) (fun i => rat (wf n c t i + num n c t * kf n c t i)) (fun i => [.own (scrA K a ns), .own (srcA p l s'), .dat lap, .dat (.list (fs.map facD)), .dat (.bool (dueB fs)), .dat (RB.row (unit n 0)), .dat (RB.row (prods fs)), .dat (rat (num n c t)), .dat (RB.row (prods fs)), .dat (.list (wordsOf fs)), .dat (tab (comp n c)), .dat (.int (n : Int)), .dat (RB.row (kry n c t)), .dat (RB.row (tabI n (wf n c t))), .non, .non, .non, .non, .dat (rat (wf n c t i)), .dat (rat (kf n c t i))])
      (ez ▸ iv_zipT T.zip (v 13) (v 12)) (room (by simp; omega)) (fun _ => pt2 (pn 18) (pn 19)) fun i hi bb => ?_)))) ?_) ?_
    · have hi : i < n := by simpa using hi
      exact call2 D.sum hr2 (v 18) (call2 D.prod hr2 (v 7) (v 19) ⟨_, _, rfl, sN t, sK t i, rfl⟩) ⟨_, _, rfl, sW t i, sP t i, rfl⟩
    · have e : (tabI n fun i => rat (wf n c t i + num n c t * kf n c t i)) = tabI n fun i => rat (wf n c (t + 1) i) := tab_ext fun i hi => by rw [wf_next ht hi]
      show PyData.tuple _ = PyData.tuple ((tabI n (wf n c (t + 1))).map rat)
      unfold tabI at e ⊢
      rw [List.map_map, e]
      rfl
    · refine as 12 (call2 D.col hr3 (v 10) (v 12) (hC.col (hC.kry t).1 (hC.kry t).2)) ?_
      refine sr_drop 7 (sr_nil ⟨_, fun h => ?_, rfl⟩)
      rw [kry_next (by omega)]
  · obtain ⟨h, _, rfl⟩ := he
    have el : ((prods fs).map rat).length = n + 1 := by rw [List.length_map, sh.len]
    rw [el, wf_end]
    refine sr_if (ba := false) (ET.to (et_neP hr (v 13) (EV.to (ev_tupleL T.tuple (EL.ev (EL.to (el_rep (EL.ev (el_lst (ea1 (EV.to (ev_tup (ea2 ev_int ev_int)) (show _ = rat 0 from rfl))))) (v 11) (by omega) (by omega)) (by rw [Int.toNat_natCast, rep_tab])))) (show _ = RB.row (tabI n fun _ => 0) from rfl)) (plain_row _) (plain_row _) (.inl (row_depth _))) (by rw [eqv_row]; rfl)) nofun fun _ => sr_nil ?_
    have hn1 := hC.n1
    have hl : (units n)[n - 1]? = some (unit n (n - 1)) := by
      show (tabI n (unit n))[n - 1]? = _
      rw [tab_get, if_pos (by omega)]
    -- row, late
    refine sr_par (i := 14) (j := 15) rfl nd rfl rfl (by decide) rfl rfl (egs_cons (EV.eg (ev_ixT (ds := (units n).map RB.row) (i := ((n - 1 : Nat) : Int)) (call1 D.unit hr1 (v 11) ⟨n, rfl, hC.n2, rfl⟩) (EV.to (ev_sub (v 11) ev_int) (congrArg PyData.int (by omega))) (atI_at hl))) (egs_cons (EV.eg (EV.to (ev_tup (ea2 ev_int ev_int)) (show _ = rat 0 from rfl))) egs_nil)) ?_
    refine fr (.nm 7) (fun t e => ∃ q, (t ≤ n → q = RB.row (tabI n (rf n c t))) ∧ e = [.own (scrA K a ns), .own (srcA p l s'), .dat lap, .dat (.list (fs.map facD)), .dat (.bool (dueB fs)), .dat (RB.row (unit n 0)), .dat (RB.row (prods fs)), .non, .dat (RB.row (prods fs)), .dat (.list (wordsOf fs)), .dat (tab (comp n c)), .dat (.int (n : Int)), .dat h, .dat (RB.row (tabI n fun _ => 0)), .dat q, .dat (rat (lf n c t)), .non, .non, .non, .non]) (iv_tup (v 8)) (pn 7) ⟨RB.row (unit n (n - 1)), fun _ => by rw [rf_0], ?_⟩ (fun t dd e hd he => ?_) (fun e he => ?_)
    · have : lf n c 0 = 0 := by unfold lf; rw [if_neg (by omega)]
      rw [this]
      rfl
    · obtain ⟨q, hq, rfl⟩ := he
      obtain ⟨r, hk, rfl⟩ := map_at hd
      have ht : t ≤ n := by
        have := (List.getElem?_eq_some_iff.mp hk).1
        rw [sh.len] at this
        omega
      have hr0 : r = num n c t := num_at hrs hk ht
      have hq := hq ht
      subst hr0 hq
      refine ⟨_, rfl, ?_⟩
      have x0 : atI ((tabI n (rf n c t)).map rat) 0 = some (rat (rf n c t 0)) := at_tab (i := 0) hn1
      refine as 15 (d := rat (lf n c (t + 1))) (EV.to (call2 D.sum hr2 (v 15) (call2 D.prod hr2 (v 7) (ev_ixT (v 14) ev_int x0) ⟨_, _, rfl, sN t, sR t ht 0, rfl⟩) ⟨_, _, rfl, sL t, sQ t ht 0, rfl⟩) (by rw [lf_next hn1 ht])) ?_
      refine as 14 (call2 D.row hr2 (v 14) (v 10) ⟨_, _, n, rfl, rOk t ht, rfl⟩) ?_
      refine sr_drop 7 (sr_nil ⟨_, fun h => ?_, rfl⟩)
      rw [rf_next]
    · obtain ⟨q, _, rfl⟩ := he
      have e0 : lf n c (n + 1) = 0 := by unfold lf; rw [if_neg (by omega)]
      rw [el, e0]
      refine sr_if (ba := false) (ET.to (et_neP hr (v 15) (EV.to (ev_tup (ea2 ev_int ev_int)) (show _ = rat 0 from rfl)) rfl rfl (.inl (depth_rat _))) (by rw [rat_eqv]; simp)) nofun fun _ => sr_nil ?_
      refine sr_drop 2 (sr_drop 3 (sr_drop 4 (sr_drop 5 (sr_drop 6 (sr_drop 8 (sr_drop 9 (sr_drop 10 (sr_drop 11 (sr_drop 12 (sr_drop 13 (sr_drop 14 (sr_drop 15 (sr_nil ?_)))))))))))))
      rfl
end
end K46
end
section
set_option Elab.async false
set_option linter.all false
set_option maxRecDepth 100000
set_option maxHeartbeats 4000000
set_option exponentiation.threshold 20000
namespace K46
open PySem PySem.Spec L2 Pu RB RW SR1
open SC (Kd Fac)
open PyProof.Rows (envOfC)
def laps (s : Src) : Nat → Src
  | 0 => s
  | n + 1 => (draw (laps s n)).2
theorem shp_two : Shp [-1, 1] 1 2 1 1 := ⟨⟨by decide, fun r hr => by
  rcases List.mem_cons.mp hr with h | h
  · subst h; decide +kernel
  · have : r = 1 := by simpa using h
    rw [this]; exact Nat.one_dvd _, by decide +kernel⟩, by decide, by decide, by decide, rfl, by decide, by decide, by decide, by decide +kernel⟩
theorem set_one : SetOk [1] := by
  refine ⟨by decide, testOk_of (D := 1) (Z := 1) (b := 1) (by decide) (by decide) (by decide) (by decide) (by decide) (fun r hr => nrm_one.mem hr) (by decide), testOk_of (D := 1) (Z := 1) (b := 1) (by decide) (by decide) (by decide) (by decide) (by decide) (fun r hr => by cases hr) (by decide), sumOk_of (D := 1) (Z := 1) (b := 1) (by decide) (by decide) (by decide) (by decide) (by decide) fun r hr => by cases hr⟩
theorem settle_one : SC.settle [1] = true := by decide +kernel
theorem settle_two : SC.settle [-1, 1] = true := by decide +kernel
section
variable {P : Program} {w : World} {K : PySem.W.Frag} {mg : Str → Option Value} {base : Heap} {f : Addr}
theorem ok_law (T : Txt K mg) (D : Dfs P w K mg base) (cdv : Value) (s0 : Shared) (H : Hp) (hr : Room 5 (xL P w K mg base f cdv s0 H).A) (a : Addr) (ns : List Int) (hlen : ns.length ≤ 63) :
    SR (xL P w K mg base f cdv s0 H) [.own (scrA K a ns), .non, .non, .non, .non, .non, .non, .non, .non, .non, .non, .non, .non, .non, .non, .non, .non, .non, .non, .non] (defBody s38) (QR (.bool true)) := by
  have nd := sc38.nd
  have hr1 : Room 1 (xL P w K mg base f cdv s0 H).A := hr.mono (by decide)
  have hr4 : Room 4 (xL P w K mg base f cdv s0 H).A := hr.mono (by decide)
  refine sr_asg (i := 1) nd rfl (Or.inl rfl) (eg_callN (i := 0) (Φ := scrA K a ns) D.src hr1 rfl (Or.inl rfl) rfl ⟨a, ns, rfl, hlen, rfl⟩ fun v H0 H F h => h.2.1) ?_
  refine sr_openS 1 rfl fun p l => ?_
  refine fr (.nm 2) (fun t e => e = [.own (scrA K a ns), .own (srcA p l (laps (source ns) t)), .non, .non, .non, .non, .non, .non, .non, .non, .non, .non, .non, .non, .non, .non, .non, .non, .non, .non]) (iv_range1 T.range ev_int (by decide) (by decide)) (pn 2) rfl (fun t dd e hd he => ?_) (fun e he => ?_)
  · subst he
    refine ⟨_, rfl, ?_⟩
    exact ok_lap T D cdv s0 H hr a ns p l (laps (source ns) t) dd _ _
  · subst he
    refine sr_ret (ev_and (ev_is' (call1 D.set hr4 (EV.to (ev_tup (ea1 (ev_tup (ea2 ev_int ev_int)))) (show _ = RB.row [1] from rfl)) ⟨[1], rfl, set_one, rfl⟩) ev_bl) fun _ => ev_one (ev_is' (call1 D.set hr4 (EV.to (ev_tup (ea2 (ev_tup (ea2 (ev_neg ev_int) ev_int)) (ev_tup (ea2 ev_int ev_int)))) (show _ = RB.row [-1, 1] from rfl)) ⟨[-1, 1], rfl, shp_two.set, rfl⟩) ev_bl)) (qr ?_)
    rw [settle_one, settle_two]
    rfl
/-- the law's def, run at the law's caller -/
theorem law_runs {fd : FuncData} {a : Addr} {ns : List Int} {s : Shared} {H : Hp} (T : Txt K mg) (D : Dfs P w K mg base) (F : Fun K "law" "law" s38 f fd) (hlen : ns.length ≤ 63) (X : K.In s.heap) (e0 : Env0 P w K mg base callerA [] s H) (hS : SqL K H a (ns.map V.int)) :
    codeAny (model P w) callerA (.call (.ref f) ⟨[.ref a], []⟩) (CR CX0 [] P w H s At.Yes E0) s := by
  have b := F.binds (ps := ["script"]) fun _ _ _ _ _ _ us hl => match us, hl with | [_], _ => rfl
  refine At.run_at (k := 5) (N := n38) (vs := [.ref a]) (us := [.ref a]) F sc38 rfl ⟨rfl, by decide, by decide⟩ e0 (b s [.ref a] X rfl) (.cons rfl .nil) fun cdv hr => ?_
  have S0 := sl_entryO (K := K) (N := n38) (Φ := scrA K a ns) (ds := []) (f := []) (H0 := H) (fun _ _ h => h) ⟨rfl, rfl, hS⟩ (by simp) .nil
  refine ⟨_, pss_sr, tSR.go S0 (ok_law T D cdv s H hr a ns hlen) fun env' oc σ' H0' H' F' z S' g => ?_⟩
  rcases z with rfl | ⟨rfl, h⟩
  · intro v hv
    cases hv
    rfl
  · cases h
end
end K46
end
section
set_option Elab.async false
set_option linter.all false
set_option maxRecDepth 100000
set_option maxHeartbeats 4000000
namespace K46
open PySem PySem.Spec L2 Pu RB RW SR1
open SC (Kd Fac)
/-! what the head has written, joined -/
theorem df_mk {P : Program} {w : World} {K : PySem.W.Frag} {mg : Str → Option Value} {base : Heap} {k : Nat} {x : Str} {f : Addr} {fd : FuncData} {ps : List Str} {sp : Sp} (F : FnOk P w K mg base CX0 k f fd ps sp) (m : mg x = some (.ref f)) (kp : PySem.W.keepIn K (.ref f) = true) (b : Binds K fd ps []) : Df P w K mg base k x sp := ⟨⟨f, fd, ps, F, m, kp, b⟩⟩
theorem con_mk {K : PySem.W.Frag} {mg : Str → Option Value} {x : Str} {p : Addr} {oc : Value} {od : Option Addr} {its : Array Value} {n : Nat} {sl : Array (Option Value)} {i j : Int} (hm : mg x = some (.ref p)) (l : K.lookup p = some ⟨oc, od, .seq its n, sl⟩) (h : oc = .type "tuple") (s : its.size ≤ sizeLine) (r : Vals [.int i, .int j] its.toList) :
    ∃ v u, mg x = some u ∧ RelV v u ∧ ∀ H, Dq K H v (.tuple [.int i, .int j]) :=
  ⟨.ref p, .ref p, hm, rfl, fun H => .tup (.inr ⟨_, its, n, l, h, rfl, s, r⟩) (.cons (.int _) (.cons (.int _) .nil))⟩
theorem all_mk {P : Program} {w : World} {K : PySem.W.Frag} {mg : Str → Option Value} {fa a : Addr} {s : Shared} {ns : List Int} (X : K.In s.heap) (G : s.heap.Ns mainGlobals mg) (hfa : mg "law" = some (.ref fa)) (hlen : ns.length ≤ 63)
    {C f4 f5 f6 f7 f8 f10 f11 f14 f15 f16 f17 f20 f21 f22 f23 f25 f26 f28 f29 f30 f31 f32 f33 f34 f35 f36 f37 fm0 fm1 fm2 fm3 fm4 fL pone pnone pless : Addr} {od4 an4 od5 an5 od6 an6 od7 an7 od8 an8 od10 an10 od11 an11 od14 an14 od15 an15 od16 an16 od17 an17 od20 an20 od21 an21 od22 an22 od23 an23 od25 an25 od26 an26 od28 an28 od29 an29 od30 an30 od31 an31 od32 an32 od33 an33 od34 an34 od35 an35 od36 an36 od37 an37 odm0 anm0 odm1 anm1 odm2 anm2 odm3 anm3 odm4 anm4 odL anL odone odnone odless : Option Addr} {sl4 sl5 sl6 sl7 sl8 sl10 sl11 sl14 sl15 sl16 sl17 sl20 sl21 sl22 sl23 sl25 sl26 sl28 sl29 sl30 sl31 sl32 sl33 sl34 sl35 sl36 sl37 slm0 slm1 slm2 slm3 slm4 slL slone slnone slless : Array (Option Value)} {itsone itsnone itsless : Array Value} {qone qnone qless : Nat} {oc4 kV4 dc4 pm4 cd4 ct4 oc5 kV5 dc5 pm5 cd5 ct5 oc6 kV6 dc6 pm6 cd6 ct6 oc7 kV7 dc7 pm7 cd7 ct7 oc8 kV8 dc8 pm8 cd8 ct8 oc10 kV10 dc10 pm10 cd10 ct10 oc11 kV11 dc11 pm11 cd11 ct11 oc14 kV14 dc14 pm14 cd14 ct14 oc15 kV15 dc15 pm15 cd15 ct15 oc16 kV16 dc16 pm16 cd16 ct16 oc17 kV17 dc17 pm17 cd17 ct17 oc20 kV20 dc20 pm20 cd20 ct20 oc21 kV21 dc21 pm21 cd21 ct21 oc22 kV22 dc22 pm22 cd22 ct22 oc23 kV23 dc23 pm23 cd23 ct23 oc25 kV25 dc25 pm25 cd25 ct25 oc26 kV26 dc26 pm26 cd26 ct26 oc28 kV28 dc28 pm28 cd28 ct28 oc29 kV29 dc29 pm29 cd29 ct29 oc30 kV30 dc30 pm30 cd30 ct30 oc31 kV31 dc31 pm31 cd31 ct31 oc32 kV32 dc32 pm32 cd32 ct32 oc33 kV33 dc33 pm33 cd33 ct33 oc34 kV34 dc34 pm34 cd34 ct34 oc35 kV35 dc35 pm35 cd35 ct35 oc36 kV36 dc36 pm36 cd36 ct36 oc37 kV37 dc37 pm37 cd37 ct37 ocm0 kVm0 dcm0 pmm0 cdm0 ctm0 ocm1 kVm1 dcm1 pmm1 cdm1 ctm1 ocm2 kVm2 dcm2 pmm2 cdm2 ctm2 ocm3 kVm3 dcm3 pmm3 cdm3 ctm3 ocm4 kVm4 dcm4 pmm4 cdm4 ctm4 ocL kVL dcL pmL cdL ctL ocone ocnone ocless : Value}
    (gcd : PySem.W.nsIn K mainGlobals "gcd" = some (some (.builtin "math.gcd")))
    (lcm : PySem.W.nsIn K mainGlobals "lcm" = some (some (.builtin "math.lcm")))
    (zisi : PySem.W.nsIn K mainGlobals "isinstance" = some none)
    (zint : PySem.W.nsIn K mainGlobals "int" = some none)
    (zbool : PySem.W.nsIn K mainGlobals "bool" = some none)
    (ztuple : PySem.W.nsIn K mainGlobals "tuple" = some none)
    (zlen : PySem.W.nsIn K mainGlobals "len" = some none)
    (zany : PySem.W.nsIn K mainGlobals "any" = some none)
    (zsum : PySem.W.nsIn K mainGlobals "sum" = some none)
    (zabs : PySem.W.nsIn K mainGlobals "abs" = some none)
    (zmax : PySem.W.nsIn K mainGlobals "max" = some none)
    (zzip : PySem.W.nsIn K mainGlobals "zip" = some none)
    (zrange : PySem.W.nsIn K mainGlobals "range" = some none)
    (zenum : PySem.W.nsIn K mainGlobals "enumerate" = some none)
    (zrepr : PySem.W.nsIn K mainGlobals "repr" = some none)
    (gone : PySem.W.nsIn K mainGlobals "ONE" = some (some (.ref pone)))
    (lone : K.lookup pone = some ⟨ocone, odone, .seq itsone qone, slone⟩)
    (hone : ocone = .type "tuple")
    (sone : itsone.size ≤ sizeLine)
    (rone : Vals [.int 1, .int 1] itsone.toList)
    (gnone : PySem.W.nsIn K mainGlobals "NONE" = some (some (.ref pnone)))
    (lnone : K.lookup pnone = some ⟨ocnone, odnone, .seq itsnone qnone, slnone⟩)
    (hnone : ocnone = .type "tuple")
    (snone : itsnone.size ≤ sizeLine)
    (rnone : Vals [.int 0, .int 1] itsnone.toList)
    (gless : PySem.W.nsIn K mainGlobals "LESS" = some (some (.ref pless)))
    (lless : K.lookup pless = some ⟨ocless, odless, .seq itsless qless, slless⟩)
    (hless : ocless = .type "tuple")
    (sless : itsless.size ≤ sizeLine)
    (rless : Vals [.int (-1), .int 1] itsless.toList)
    (a4 : PySem.W.nsIn K mainGlobals "is_whole" = some (some (.ref f4)))
    (l4 : K.lookup f4 = some ⟨oc4, od4, .func (PySem.W.fnOf "is_whole" "is_whole" (defArgs s4) (defBody s4) (defScope s4) .none kV4 dc4 pm4 an4 cd4 ct4), sl4⟩)
    (c4 : PySem.W.codeIn K cd4 "is_whole" = true)
    (k4 : PySem.W.keepIn K (.ref f4) = true)
    (a5 : PySem.W.nsIn K mainGlobals "ratio_of" = some (some (.ref f5)))
    (l5 : K.lookup f5 = some ⟨oc5, od5, .func (PySem.W.fnOf "ratio_of" "ratio_of" (defArgs s5) (defBody s5) (defScope s5) .none kV5 dc5 pm5 an5 cd5 ct5), sl5⟩)
    (c5 : PySem.W.codeIn K cd5 "ratio_of" = true)
    (k5 : PySem.W.keepIn K (.ref f5) = true)
    (a6 : PySem.W.nsIn K mainGlobals "is_ratio" = some (some (.ref f6)))
    (l6 : K.lookup f6 = some ⟨oc6, od6, .func (PySem.W.fnOf "is_ratio" "is_ratio" (defArgs s6) (defBody s6) (defScope s6) .none kV6 dc6 pm6 an6 cd6 ct6), sl6⟩)
    (c6 : PySem.W.codeIn K cd6 "is_ratio" = true)
    (k6 : PySem.W.keepIn K (.ref f6) = true)
    (a7 : PySem.W.nsIn K mainGlobals "ratio_sum" = some (some (.ref f7)))
    (l7 : K.lookup f7 = some ⟨oc7, od7, .func (PySem.W.fnOf "ratio_sum" "ratio_sum" (defArgs s7) (defBody s7) (defScope s7) .none kV7 dc7 pm7 an7 cd7 ct7), sl7⟩)
    (c7 : PySem.W.codeIn K cd7 "ratio_sum" = true)
    (k7 : PySem.W.keepIn K (.ref f7) = true)
    (a8 : PySem.W.nsIn K mainGlobals "ratio_product" = some (some (.ref f8)))
    (l8 : K.lookup f8 = some ⟨oc8, od8, .func (PySem.W.fnOf "ratio_product" "ratio_product" (defArgs s8) (defBody s8) (defScope s8) .none kV8 dc8 pm8 an8 cd8 ct8), sl8⟩)
    (c8 : PySem.W.codeIn K cd8 "ratio_product" = true)
    (k8 : PySem.W.keepIn K (.ref f8) = true)
    (a10 : PySem.W.nsIn K mainGlobals "whole_row" = some (some (.ref f10)))
    (l10 : K.lookup f10 = some ⟨oc10, od10, .func (PySem.W.fnOf "whole_row" "whole_row" (defArgs s10) (defBody s10) (defScope s10) .none kV10 dc10 pm10 an10 cd10 ct10), sl10⟩)
    (c10 : PySem.W.codeIn K cd10 "whole_row" = true)
    (k10 : PySem.W.keepIn K (.ref f10) = true)
    (a11 : PySem.W.nsIn K mainGlobals "made_small" = some (some (.ref f11)))
    (l11 : K.lookup f11 = some ⟨oc11, od11, .func (PySem.W.fnOf "made_small" "made_small" (defArgs s11) (defBody s11) (defScope s11) .none kV11 dc11 pm11 an11 cd11 ct11), sl11⟩)
    (c11 : PySem.W.codeIn K cd11 "made_small" = true)
    (k11 : PySem.W.keepIn K (.ref f11) = true)
    (a14 : PySem.W.nsIn K mainGlobals "unit_rows" = some (some (.ref f14)))
    (l14 : K.lookup f14 = some ⟨oc14, od14, .func (PySem.W.fnOf "unit_rows" "unit_rows" (defArgs s14) (defBody s14) (defScope s14) .none kV14 dc14 pm14 an14 cd14 ct14), sl14⟩)
    (c14 : PySem.W.codeIn K cd14 "unit_rows" = true)
    (k14 : PySem.W.keepIn K (.ref f14) = true)
    (a15 : PySem.W.nsIn K mainGlobals "row_led" = some (some (.ref f15)))
    (l15 : K.lookup f15 = some ⟨oc15, od15, .func (PySem.W.fnOf "row_led" "row_led" (defArgs s15) (defBody s15) (defScope s15) .none kV15 dc15 pm15 an15 cd15 ct15), sl15⟩)
    (c15 : PySem.W.codeIn K cd15 "row_led" = true)
    (k15 : PySem.W.keepIn K (.ref f15) = true)
    (a16 : PySem.W.nsIn K mainGlobals "across" = some (some (.ref f16)))
    (l16 : K.lookup f16 = some ⟨oc16, od16, .func (PySem.W.fnOf "across" "across" (defArgs s16) (defBody s16) (defScope s16) .none kV16 dc16 pm16 an16 cd16 ct16), sl16⟩)
    (c16 : PySem.W.codeIn K cd16 "across" = true)
    (k16 : PySem.W.keepIn K (.ref f16) = true)
    (a17 : PySem.W.nsIn K mainGlobals "column_led" = some (some (.ref f17)))
    (l17 : K.lookup f17 = some ⟨oc17, od17, .func (PySem.W.fnOf "column_led" "column_led" (defArgs s17) (defBody s17) (defScope s17) .none kV17 dc17 pm17 an17 cd17 ct17), sl17⟩)
    (c17 : PySem.W.codeIn K cd17 "column_led" = true)
    (k17 : PySem.W.keepIn K (.ref f17) = true)
    (a20 : PySem.W.nsIn K mainGlobals "columns_led" = some (some (.ref f20)))
    (l20 : K.lookup f20 = some ⟨oc20, od20, .func (PySem.W.fnOf "columns_led" "columns_led" (defArgs s20) (defBody s20) (defScope s20) .none kV20 dc20 pm20 an20 cd20 ct20), sl20⟩)
    (c20 : PySem.W.codeIn K cd20 "columns_led" = true)
    (k20 : PySem.W.keepIn K (.ref f20) = true)
    (a21 : PySem.W.nsIn K mainGlobals "relation_told" = some (some (.ref f21)))
    (l21 : K.lookup f21 = some ⟨oc21, od21, .func (PySem.W.fnOf "relation_told" "relation_told" (defArgs s21) (defBody s21) (defScope s21) .none kV21 dc21 pm21 an21 cd21 ct21), sl21⟩)
    (c21 : PySem.W.codeIn K cd21 "relation_told" = true)
    (k21 : PySem.W.keepIn K (.ref f21) = true)
    (a22 : PySem.W.nsIn K mainGlobals "sum_of" = some (some (.ref f22)))
    (l22 : K.lookup f22 = some ⟨oc22, od22, .func (PySem.W.fnOf "sum_of" "sum_of" (defArgs s22) (defBody s22) (defScope s22) .none kV22 dc22 pm22 an22 cd22 ct22), sl22⟩)
    (c22 : PySem.W.codeIn K cd22 "sum_of" = true)
    (k22 : PySem.W.keepIn K (.ref f22) = true)
    (a23 : PySem.W.nsIn K mainGlobals "without_one" = some (some (.ref f23)))
    (l23 : K.lookup f23 = some ⟨oc23, od23, .func (PySem.W.fnOf "without_one" "without_one" (defArgs s23) (defBody s23) (defScope s23) .none kV23 dc23 pm23 an23 cd23 ct23), sl23⟩)
    (c23 : PySem.W.codeIn K cd23 "without_one" = true)
    (k23 : PySem.W.keepIn K (.ref f23) = true)
    (a25 : PySem.W.nsIn K mainGlobals "are_within" = some (some (.ref f25)))
    (l25 : K.lookup f25 = some ⟨oc25, od25, .func (PySem.W.fnOf "are_within" "are_within" (defArgs s25) (defBody s25) (defScope s25) .none kV25 dc25 pm25 an25 cd25 ct25), sl25⟩)
    (c25 : PySem.W.codeIn K cd25 "are_within" = true)
    (k25 : PySem.W.keepIn K (.ref f25) = true)
    (a26 : PySem.W.nsIn K mainGlobals "is_settling" = some (some (.ref f26)))
    (l26 : K.lookup f26 = some ⟨oc26, od26, .func (PySem.W.fnOf "is_settling" "is_settling" (defArgs s26) (defBody s26) (defScope s26) .none kV26 dc26 pm26 an26 cd26 ct26), sl26⟩)
    (c26 : PySem.W.codeIn K cd26 "is_settling" = true)
    (k26 : PySem.W.keepIn K (.ref f26) = true)
    (a28 : PySem.W.nsIn K mainGlobals "_law_source" = some (some (.ref f28)))
    (l28 : K.lookup f28 = some ⟨oc28, od28, .func (PySem.W.fnOf "_law_source" "_law_source" (defArgs s28) (defBody s28) (defScope s28) .none kV28 dc28 pm28 an28 cd28 ct28), sl28⟩)
    (c28 : PySem.W.codeIn K cd28 "_law_source" = true)
    (k28 : PySem.W.keepIn K (.ref f28) = true)
    (a29 : PySem.W.nsIn K mainGlobals "_law_pick" = some (some (.ref f29)))
    (l29 : K.lookup f29 = some ⟨oc29, od29, .func (PySem.W.fnOf "_law_pick" "_law_pick" (defArgs s29) (defBody s29) (defScope s29) .none kV29 dc29 pm29 an29 cd29 ct29), sl29⟩)
    (c29 : PySem.W.codeIn K cd29 "_law_pick" = true)
    (k29 : PySem.W.keepIn K (.ref f29) = true)
    (a30 : PySem.W.nsIn K mainGlobals "_law_of" = some (some (.ref f30)))
    (l30 : K.lookup f30 = some ⟨oc30, od30, .func (PySem.W.fnOf "_law_of" "_law_of" (defArgs s30) (defBody s30) (defScope s30) .none kV30 dc30 pm30 an30 cd30 ct30), sl30⟩)
    (c30 : PySem.W.codeIn K cd30 "_law_of" = true)
    (k30 : PySem.W.keepIn K (.ref f30) = true)
    (a31 : PySem.W.nsIn K mainGlobals "_law_low" = some (some (.ref f31)))
    (l31 : K.lookup f31 = some ⟨oc31, od31, .func (PySem.W.fnOf "_law_low" "_law_low" (defArgs s31) (defBody s31) (defScope s31) .none kV31 dc31 pm31 an31 cd31 ct31), sl31⟩)
    (c31 : PySem.W.codeIn K cd31 "_law_low" = true)
    (k31 : PySem.W.keepIn K (.ref f31) = true)
    (a32 : PySem.W.nsIn K mainGlobals "_law_add" = some (some (.ref f32)))
    (l32 : K.lookup f32 = some ⟨oc32, od32, .func (PySem.W.fnOf "_law_add" "_law_add" (defArgs s32) (defBody s32) (defScope s32) .none kV32 dc32 pm32 an32 cd32 ct32), sl32⟩)
    (c32 : PySem.W.codeIn K cd32 "_law_add" = true)
    (k32 : PySem.W.keepIn K (.ref f32) = true)
    (a33 : PySem.W.nsIn K mainGlobals "_law_times" = some (some (.ref f33)))
    (l33 : K.lookup f33 = some ⟨oc33, od33, .func (PySem.W.fnOf "_law_times" "_law_times" (defArgs s33) (defBody s33) (defScope s33) .none kV33 dc33 pm33 an33 cd33 ct33), sl33⟩)
    (c33 : PySem.W.codeIn K cd33 "_law_times" = true)
    (k33 : PySem.W.keepIn K (.ref f33) = true)
    (a34 : PySem.W.nsIn K mainGlobals "_law_less" = some (some (.ref f34)))
    (l34 : K.lookup f34 = some ⟨oc34, od34, .func (PySem.W.fnOf "_law_less" "_law_less" (defArgs s34) (defBody s34) (defScope s34) .none kV34 dc34 pm34 an34 cd34 ct34), sl34⟩)
    (c34 : PySem.W.codeIn K cd34 "_law_less" = true)
    (k34 : PySem.W.keepIn K (.ref f34) = true)
    (a35 : PySem.W.nsIn K mainGlobals "_law_factors" = some (some (.ref f35)))
    (l35 : K.lookup f35 = some ⟨oc35, od35, .func (PySem.W.fnOf "_law_factors" "_law_factors" (defArgs s35) (defBody s35) (defScope s35) .none kV35 dc35 pm35 an35 cd35 ct35), sl35⟩)
    (c35 : PySem.W.codeIn K cd35 "_law_factors" = true)
    (k35 : PySem.W.keepIn K (.ref f35) = true)
    (a36 : PySem.W.nsIn K mainGlobals "_law_put_together" = some (some (.ref f36)))
    (l36 : K.lookup f36 = some ⟨oc36, od36, .func (PySem.W.fnOf "_law_put_together" "_law_put_together" (defArgs s36) (defBody s36) (defScope s36) .none kV36 dc36 pm36 an36 cd36 ct36), sl36⟩)
    (c36 : PySem.W.codeIn K cd36 "_law_put_together" = true)
    (k36 : PySem.W.keepIn K (.ref f36) = true)
    (a37 : PySem.W.nsIn K mainGlobals "_law_companion" = some (some (.ref f37)))
    (l37 : K.lookup f37 = some ⟨oc37, od37, .func (PySem.W.fnOf "_law_companion" "_law_companion" (defArgs s37) (defBody s37) (defScope s37) .none kV37 dc37 pm37 an37 cd37 ct37), sl37⟩)
    (c37 : PySem.W.codeIn K cd37 "_law_companion" = true)
    (k37 : PySem.W.keepIn K (.ref f37) = true)
    (aC : PySem.W.nsIn K mainGlobals "RowBasis" = some (some (.ref C)))
    (am0 : PySem.W.findIn K (.ref C) "__init__" = some (some (.ref fm0)))
    (im0 : PySem.W.isFn K (.ref fm0) = true)
    (lm0 : K.lookup fm0 = some ⟨ocm0, odm0, .func (PySem.W.fnOf "__init__" "RowBasis.__init__" (defArgs (s12 0)) (defBody (s12 0)) (defScope (s12 0)) .none kVm0 dcm0 pmm0 anm0 cdm0 ctm0), slm0⟩)
    (cm0 : PySem.W.codeIn K cdm0 "RowBasis.__init__" = true)
    (km0 : PySem.W.keepIn K (.ref fm0) = true)
    (am1 : PySem.W.findIn K (.ref C) "many" = some (some (.ref fm1)))
    (im1 : PySem.W.isFn K (.ref fm1) = true)
    (lm1 : K.lookup fm1 = some ⟨ocm1, odm1, .func (PySem.W.fnOf "many" "RowBasis.many" (defArgs (s12 1)) (defBody (s12 1)) (defScope (s12 1)) .none kVm1 dcm1 pmm1 anm1 cdm1 ctm1), slm1⟩)
    (cm1 : PySem.W.codeIn K cdm1 "RowBasis.many" = true)
    (km1 : PySem.W.keepIn K (.ref fm1) = true)
    (am2 : PySem.W.findIn K (.ref C) "led_down" = some (some (.ref fm2)))
    (im2 : PySem.W.isFn K (.ref fm2) = true)
    (lm2 : K.lookup fm2 = some ⟨ocm2, odm2, .func (PySem.W.fnOf "led_down" "RowBasis.led_down" (defArgs (s12 2)) (defBody (s12 2)) (defScope (s12 2)) .none kVm2 dcm2 pmm2 anm2 cdm2 ctm2), slm2⟩)
    (cm2 : PySem.W.codeIn K cdm2 "RowBasis.led_down" = true)
    (km2 : PySem.W.keepIn K (.ref fm2) = true)
    (am3 : PySem.W.findIn K (.ref C) "factors" = some (some (.ref fm3)))
    (im3 : PySem.W.isFn K (.ref fm3) = true)
    (lm3 : K.lookup fm3 = some ⟨ocm3, odm3, .func (PySem.W.fnOf "factors" "RowBasis.factors" (defArgs (s12 3)) (defBody (s12 3)) (defScope (s12 3)) .none kVm3 dcm3 pmm3 anm3 cdm3 ctm3), slm3⟩)
    (cm3 : PySem.W.codeIn K cdm3 "RowBasis.factors" = true)
    (km3 : PySem.W.keepIn K (.ref fm3) = true)
    (am4 : PySem.W.findIn K (.ref C) "put" = some (some (.ref fm4)))
    (im4 : PySem.W.isFn K (.ref fm4) = true)
    (lm4 : K.lookup fm4 = some ⟨ocm4, odm4, .func (PySem.W.fnOf "put" "RowBasis.put" (defArgs (s12 4)) (defBody (s12 4)) (defScope (s12 4)) .none kVm4 dcm4 pmm4 anm4 cdm4 ctm4), slm4⟩)
    (cm4 : PySem.W.codeIn K cdm4 "RowBasis.put" = true)
    (km4 : PySem.W.keepIn K (.ref fm4) = true)
    (pg : PySem.W.plainGet K C Str.empty = true)
    (hd : PySem.W.hasDictIn K C = true)
    (po : PySem.W.plainOver K C = true)
    (sa : PySem.W.findIn K (.ref C) "__setattr__" = some (some (.builtin "object.__setattr__")))
    (mk : PySem.W.makesIn K C = true)
    (kc : PySem.W.keepIn K (.ref C) = true)
    (nB : PySem.W.findIn K (.ref C) "bottoms" = some none)
    (nE : PySem.W.findIn K (.ref C) "echelon" = some none)
    (aL : PySem.W.nsIn K mainGlobals "law" = some (some (.ref fL)))
    (lL : K.lookup fL = some ⟨ocL, odL, .func (PySem.W.fnOf "law" "law" (defArgs s38) (defBody s38) (defScope s38) .none kVL dcL pmL anL cdL ctL), slL⟩)
    (cL : PySem.W.codeIn K cdL "law" = true)
    (kL : PySem.W.keepIn K (.ref fL) = true) :
    At.Runs P w K mg fa a ns s := by
  have e := hfa.symm.trans (PySem.W.mg_of X G aL)
  cases e
  have T : Txt K mg := ⟨PySem.W.mg_of X G gcd, PySem.W.mg_of X G lcm, con_mk (PySem.W.mg_of X G gone) lone hone sone rone, con_mk (PySem.W.mg_of X G gnone) lnone hnone snone rnone, con_mk (PySem.W.mg_of X G gless) lless hless sless rless, PySem.W.mg_none_of X G zisi, PySem.W.mg_none_of X G zint, PySem.W.mg_none_of X G zbool, PySem.W.mg_none_of X G ztuple, PySem.W.mg_none_of X G zlen, PySem.W.mg_none_of X G zany, PySem.W.mg_none_of X G zsum, PySem.W.mg_none_of X G zabs, PySem.W.mg_none_of X G zmax, PySem.W.mg_none_of X G zzip, PySem.W.mg_none_of X G zrange, PySem.W.mg_none_of X G zenum, PySem.W.mg_none_of X G zrepr⟩
  have F4 := fun_mk (st := s4) l4 c4 k4
  have F5 := fun_mk (st := s5) l5 c5 k5
  have F6 := fun_mk (st := s6) l6 c6 k6
  have F7 := fun_mk (st := s7) l7 c7 k7
  have F8 := fun_mk (st := s8) l8 c8 k8
  have F10 := fun_mk (st := s10) l10 c10 k10
  have F11 := fun_mk (st := s11) l11 c11 k11
  have F14 := fun_mk (st := s14) l14 c14 k14
  have F15 := fun_mk (st := s15) l15 c15 k15
  have F16 := fun_mk (st := s16) l16 c16 k16
  have F17 := fun_mk (st := s17) l17 c17 k17
  have F20 := fun_mk (st := s20) l20 c20 k20
  have F21 := fun_mk (st := s21) l21 c21 k21
  have F22 := fun_mk (st := s22) l22 c22 k22
  have F23 := fun_mk (st := s23) l23 c23 k23
  have F25 := fun_mk (st := s25) l25 c25 k25
  have F26 := fun_mk (st := s26) l26 c26 k26
  have F28 := fun_mk (st := s28) l28 c28 k28
  have F29 := fun_mk (st := s29) l29 c29 k29
  have F30 := fun_mk (st := s30) l30 c30 k30
  have F31 := fun_mk (st := s31) l31 c31 k31
  have F32 := fun_mk (st := s32) l32 c32 k32
  have F33 := fun_mk (st := s33) l33 c33 k33
  have F34 := fun_mk (st := s34) l34 c34 k34
  have F35 := fun_mk (st := s35) l35 c35 k35
  have F36 := fun_mk (st := s36) l36 c36 k36
  have F37 := fun_mk (st := s37) l37 c37 k37
  have Fm0 := fun_mk (st := s12 0) lm0 cm0 km0
  have Fm1 := fun_mk (st := s12 1) lm1 cm1 km1
  have Fm2 := fun_mk (st := s12 2) lm2 cm2 km2
  have Fm3 := fun_mk (st := s12 3) lm3 cm3 km3
  have Fm4 := fun_mk (st := s12 4) lm4 cm4 km4
  have c : Cl K C := ⟨⟨pg, hd, po, sa⟩, nB, nE⟩
  have FL := fun_mk (st := s38) lL cL kL
  have b4 := F4.binds (ps := ["value"]) fun _ _ _ _ _ _ us hl => match us, hl with | [_], _ => rfl
  have b5 := F5.binds (ps := ["top", "bottom"]) fun _ _ _ _ _ _ us hl => match us, hl with | [_, _], _ => rfl
  have b6 := F6.binds (ps := ["value"]) fun _ _ _ _ _ _ us hl => match us, hl with | [_], _ => rfl
  have b7 := F7.binds (ps := ["one", "other"]) fun _ _ _ _ _ _ us hl => match us, hl with | [_, _], _ => rfl
  have b8 := F8.binds (ps := ["one", "other"]) fun _ _ _ _ _ _ us hl => match us, hl with | [_, _], _ => rfl
  have b10 := F10.binds (ps := ["row"]) fun _ _ _ _ _ _ us hl => match us, hl with | [_], _ => rfl
  have b11 := F11.binds (ps := ["numbers"]) fun _ _ _ _ _ _ us hl => match us, hl with | [_], _ => rfl
  have b14 := F14.binds (ps := ["many"]) fun _ _ _ _ _ _ us hl => match us, hl with | [_], _ => rfl
  have b15 := F15.binds (ps := ["row", "table"]) fun _ _ _ _ _ _ us hl => match us, hl with | [_, _], _ => rfl
  have b16 := F16.binds (ps := ["table"]) fun _ _ _ _ _ _ us hl => match us, hl with | [_], _ => rfl
  have b17 := F17.binds (ps := ["table", "column"]) fun _ _ _ _ _ _ us hl => match us, hl with | [_, _], _ => rfl
  have b20 := F20.binds (ps := ["table", "column"]) fun _ _ _ _ _ _ us hl => match us, hl with | [_, _], _ => rfl
  have b21 := F21.binds (ps := ["table", "column"]) fun _ _ _ _ _ _ us hl => match us, hl with | [_, _], _ => rfl
  have b22 := F22.binds (ps := ["ratios"]) fun _ _ _ _ _ _ us hl => match us, hl with | [_], _ => rfl
  have b23 := F23.binds (ps := ["relation"]) fun _ _ _ _ _ _ us hl => match us, hl with | [_], _ => rfl
  have b25 := F25.binds (ps := ["numbers"]) fun _ _ _ _ _ _ us hl => match us, hl with | [_], _ => rfl
  have b26 := F26.binds (ps := ["relation"]) fun _ _ _ _ _ _ us hl => match us, hl with | [_], _ => rfl
  have b28 := F28.binds (ps := ["script"]) fun _ _ _ _ _ _ us hl => match us, hl with | [_], _ => rfl
  have b29 := F29.binds (ps := ["source", "many"]) fun _ _ _ _ _ _ us hl => match us, hl with | [_, _], _ => rfl
  have b30 := F30.binds (ps := ["source", "some"]) fun _ _ _ _ _ _ us hl => match us, hl with | [_, _], _ => rfl
  have b31 := F31.binds (ps := ["top", "bottom"]) fun _ _ _ _ _ _ us hl => match us, hl with | [_, _], _ => rfl
  have b32 := F32.binds (ps := ["one", "other"]) fun _ _ _ _ _ _ us hl => match us, hl with | [_, _], _ => rfl
  have b33 := F33.binds (ps := ["one", "other"]) fun _ _ _ _ _ _ us hl => match us, hl with | [_, _], _ => rfl
  have b34 := F34.binds (ps := ["one", "other"]) fun _ _ _ _ _ _ us hl => match us, hl with | [_, _], _ => rfl
  have b35 := F35.binds (ps := ["source"]) fun _ _ _ _ _ _ us hl => match us, hl with | [_], _ => rfl
  have b36 := F36.binds (ps := ["factors"]) fun _ _ _ _ _ _ us hl => match us, hl with | [_], _ => rfl
  have b37 := F37.binds (ps := ["numbers"]) fun _ _ _ _ _ _ us hl => match us, hl with | [_], _ => rfl
  have bm0 := Fm0.binds (ps := ["self"]) fun _ _ _ _ _ _ us hl => match us, hl with | [_], _ => rfl
  have bm1 := Fm1.binds (ps := ["self"]) fun _ _ _ _ _ _ us hl => match us, hl with | [_], _ => rfl
  have bm2 := Fm2.binds (ps := ["self", "numbers"]) fun _ _ _ _ _ _ us hl => match us, hl with | [_, _], _ => rfl
  have bm3 := Fm3.binds (ps := ["self", "row"]) fun _ _ _ _ _ _ us hl => match us, hl with | [_, _], _ => rfl
  have bm4 := Fm4.binds (ps := ["self", "row"]) fun _ _ _ _ _ _ us hl => match us, hl with | [_, _], _ => rfl
  intro base H e0 hS
  have D4 := df_mk (P := P) (w := w) (mg := mg) (base := base) (ok_is_whole F4 T) (PySem.W.mg_of X G a4) k4 b4
  have D5 := df_mk (P := P) (w := w) (mg := mg) (base := base) (ok_ratio_of F5 T) (PySem.W.mg_of X G a5) k5 b5
  have D6 := df_mk (P := P) (w := w) (mg := mg) (base := base) (ok_is_ratio F6 T D4) (PySem.W.mg_of X G a6) k6 b6
  have D7 := df_mk (P := P) (w := w) (mg := mg) (base := base) (ok_ratio_sum F7 D5) (PySem.W.mg_of X G a7) k7 b7
  have D8 := df_mk (P := P) (w := w) (mg := mg) (base := base) (ok_ratio_product F8 D5) (PySem.W.mg_of X G a8) k8 b8
  have D10 := df_mk (P := P) (w := w) (mg := mg) (base := base) (ok_whole_row F10 T) (PySem.W.mg_of X G a10) k10 b10
  have D11 := df_mk (P := P) (w := w) (mg := mg) (base := base) (ok_made_small F11 T) (PySem.W.mg_of X G a11) k11 b11
  have Dm1 : Dm P w K mg base C 1 "many" (spO K (cMany K C)) := ⟨⟨_, _, _, ok_many Fm1 T c, ⟨am1, im1, km1⟩, bm1⟩, by decide +kernel⟩
  have Dm2 : Dm P w K mg base C 2 "led_down" (spO K (cLed K C)) := ⟨⟨_, _, _, ok_led_down Fm2 T c D11 Dm1, ⟨am2, im2, km2⟩, bm2⟩, by decide +kernel⟩
  have Dm3 : Dm P w K mg base C 3 "factors" (spO K (cFactors K C)) := ⟨⟨_, _, _, ok_factors Fm3 T c D5 D10 Dm2, ⟨am3, im3, km3⟩, bm3⟩, by decide +kernel⟩
  have Dm4 : Dm P w K mg base C 3 "put" (spO K (cPut K C)) := ⟨⟨_, _, _, ok_put Fm4 T c D10 Dm2, ⟨am4, im4, km4⟩, bm4⟩, by decide +kernel⟩
  have Bs : Bas P w K mg base C := ⟨c, ⟨_, _, ⟨mk, am0, im0, kc⟩, ok_init Fm0 c, bm0⟩, PySem.W.mg_of X G aC, Dm4, Dm3⟩
  have D14 := df_mk (P := P) (w := w) (mg := mg) (base := base) (ok_unit_rows F14 T) (PySem.W.mg_of X G a14) k14 b14
  have D15 := df_mk (P := P) (w := w) (mg := mg) (base := base) (ok_row_led F15 T D5 D10) (PySem.W.mg_of X G a15) k15 b15
  have D16 := df_mk (P := P) (w := w) (mg := mg) (base := base) (ok_across F16 T) (PySem.W.mg_of X G a16) k16 b16
  have D17 := df_mk (P := P) (w := w) (mg := mg) (base := base) (ok_column_led F17 D15 D16) (PySem.W.mg_of X G a17) k17 b17
  have D20 := df_mk (P := P) (w := w) (mg := mg) (base := base) (ok_columns_led F20 T D17 Bs) (PySem.W.mg_of X G a20) k20 b20
  have D21 := df_mk (P := P) (w := w) (mg := mg) (base := base) (ok_relation_told F21 T D8 D20) (PySem.W.mg_of X G a21) k21 b21
  have D22 := df_mk (P := P) (w := w) (mg := mg) (base := base) (ok_sum_of F22 T D7) (PySem.W.mg_of X G a22) k22 b22
  have D23 := df_mk (P := P) (w := w) (mg := mg) (base := base) (ok_without_one F23 T D7) (PySem.W.mg_of X G a23) k23 b23
  have D25 := df_mk (P := P) (w := w) (mg := mg) (base := base) (ok_are_within F25 T D11) (PySem.W.mg_of X G a25) k25 b25
  have D26 := df_mk (P := P) (w := w) (mg := mg) (base := base) (ok_is_settling F26 T D22 D23 D10 D25) (PySem.W.mg_of X G a26) k26 b26
  have D28 := df_mk (P := P) (w := w) (mg := mg) (base := base) (ok_source F28 T) (PySem.W.mg_of X G a28) k28 b28
  have D29 := df_mk (P := P) (w := w) (mg := mg) (base := base) (ok_pick F29 T) (PySem.W.mg_of X G a29) k29 b29
  have D30 := df_mk (P := P) (w := w) (mg := mg) (base := base) (ok_of F30 T D29) (PySem.W.mg_of X G a30) k30 b30
  have D31 := df_mk (P := P) (w := w) (mg := mg) (base := base) (ok_low F31 T) (PySem.W.mg_of X G a31) k31 b31
  have D32 := df_mk (P := P) (w := w) (mg := mg) (base := base) (ok_add F32 D31) (PySem.W.mg_of X G a32) k32 b32
  have D33 := df_mk (P := P) (w := w) (mg := mg) (base := base) (ok_times F33 D31) (PySem.W.mg_of X G a33) k33 b33
  have D34 := df_mk (P := P) (w := w) (mg := mg) (base := base) (ok_less F34 D32) (PySem.W.mg_of X G a34) k34 b34
  have D35 := df_mk (P := P) (w := w) (mg := mg) (base := base) (ok_law_factors F35 T D29 D30) (PySem.W.mg_of X G a35) k35 b35
  have D36 := df_mk (P := P) (w := w) (mg := mg) (base := base) (ok_put_together F36 T D32 D33) (PySem.W.mg_of X G a36) k36 b36
  have D37 := df_mk (P := P) (w := w) (mg := mg) (base := base) (ok_companion F37 T D34) (PySem.W.mg_of X G a37) k37 b37
  have D : Dfs P w K mg base := ⟨D28, D35, D36, D26, D6, D37, D14, D21, D17, D7, D8, D15⟩
  exact law_runs T D FL hlen X e0 hS
end K46

open PySem PySem.W PyProof.Rows in
set_option maxRecDepth 100000 in
set_option maxHeartbeats 0 in
theorem PySem.Challenge.cw_copiedcurves_k46_whole_roots_within_1_by_holds : PySem.Challenge.rw_copiedcurves_k46_whole_roots_within_1_by.Holds := by
  w_on; o_law; k_head; (case hw => w_witness2)
  k_fill
  refine At.walk_at (l := PySem.Challenge.rw_copiedcurves_k46_whole_roots_within_1_by) (n := 63) rfl (by decide) rfl (fun w h Y => PySem.W.kIn_of Y) ?R
  case R =>
    intro w mg fa a ns s KX G hmg hlen
    refine' K46.all_mk KX G hmg hlen ?gcd ?lcm ?zisi ?zint ?zbool ?ztuple ?zlen ?zany ?zsum ?zabs ?zmax ?zzip ?zrange ?zenum ?zrepr ?gone ?lone ?hone ?sone ?rone ?gnone ?lnone ?hnone ?snone ?rnone ?gless ?lless ?hless ?sless ?rless ?a4 ?l4 ?c4 ?k4 ?a5 ?l5 ?c5 ?k5 ?a6 ?l6 ?c6 ?k6 ?a7 ?l7 ?c7 ?k7 ?a8 ?l8 ?c8 ?k8 ?a10 ?l10 ?c10 ?k10 ?a11 ?l11 ?c11 ?k11 ?a14 ?l14 ?c14 ?k14 ?a15 ?l15 ?c15 ?k15 ?a16 ?l16 ?c16 ?k16 ?a17 ?l17 ?c17 ?k17 ?a20 ?l20 ?c20 ?k20 ?a21 ?l21 ?c21 ?k21 ?a22 ?l22 ?c22 ?k22 ?a23 ?l23 ?c23 ?k23 ?a25 ?l25 ?c25 ?k25 ?a26 ?l26 ?c26 ?k26 ?a28 ?l28 ?c28 ?k28 ?a29 ?l29 ?c29 ?k29 ?a30 ?l30 ?c30 ?k30 ?a31 ?l31 ?c31 ?k31 ?a32 ?l32 ?c32 ?k32 ?a33 ?l33 ?c33 ?k33 ?a34 ?l34 ?c34 ?k34 ?a35 ?l35 ?c35 ?k35 ?a36 ?l36 ?c36 ?k36 ?a37 ?l37 ?c37 ?k37 ?aC ?am0 ?im0 ?lm0 ?cm0 ?km0 ?am1 ?im1 ?lm1 ?cm1 ?km1 ?am2 ?im2 ?lm2 ?cm2 ?km2 ?am3 ?im3 ?lm3 ?cm3 ?km3 ?am4 ?im4 ?lm4 ?cm4 ?km4 ?pg ?hd ?po ?sa ?mk ?kc ?nB ?nE ?aL ?lL ?cL ?kL
    (case gcd => k_is)
    (case lcm => k_is)
    (case zisi => k_is)
    (case zint => k_is)
    (case zbool => k_is)
    (case ztuple => k_is)
    (case zlen => k_is)
    (case zany => k_is)
    (case zsum => k_is)
    (case zabs => k_is)
    (case zmax => k_is)
    (case zzip => k_is)
    (case zrange => k_is)
    (case zenum => k_is)
    (case zrepr => k_is)
    (case gone => k_is)
    (case lone => k_is)
    (case hone => rfl)
    (case sone => decide)
    (case rone => exact .cons ⟨_, rfl⟩ (.cons ⟨_, rfl⟩ .nil))
    (case gnone => k_is)
    (case lnone => k_is)
    (case hnone => rfl)
    (case snone => decide)
    (case rnone => exact .cons ⟨_, rfl⟩ (.cons ⟨_, rfl⟩ .nil))
    (case gless => k_is)
    (case lless => k_is)
    (case hless => rfl)
    (case sless => decide)
    (case rless => exact .cons ⟨_, rfl⟩ (.cons ⟨_, rfl⟩ .nil))
    (case a4 => k_is)
    (case l4 => k_is)
    (case c4 => k_is)
    (case k4 => k_is)
    (case a5 => k_is)
    (case l5 => k_is)
    (case c5 => k_is)
    (case k5 => k_is)
    (case a6 => k_is)
    (case l6 => k_is)
    (case c6 => k_is)
    (case k6 => k_is)
    (case a7 => k_is)
    (case l7 => k_is)
    (case c7 => k_is)
    (case k7 => k_is)
    (case a8 => k_is)
    (case l8 => k_is)
    (case c8 => k_is)
    (case k8 => k_is)
    (case a10 => k_is)
    (case l10 => k_is)
    (case c10 => k_is)
    (case k10 => k_is)
    (case a11 => k_is)
    (case l11 => k_is)
    (case c11 => k_is)
    (case k11 => k_is)
    (case a14 => k_is)
    (case l14 => k_is)
    (case c14 => k_is)
    (case k14 => k_is)
    (case a15 => k_is)
    (case l15 => k_is)
    (case c15 => k_is)
    (case k15 => k_is)
    (case a16 => k_is)
    (case l16 => k_is)
    (case c16 => k_is)
    (case k16 => k_is)
    (case a17 => k_is)
    (case l17 => k_is)
    (case c17 => k_is)
    (case k17 => k_is)
    (case a20 => k_is)
    (case l20 => k_is)
    (case c20 => k_is)
    (case k20 => k_is)
    (case a21 => k_is)
    (case l21 => k_is)
    (case c21 => k_is)
    (case k21 => k_is)
    (case a22 => k_is)
    (case l22 => k_is)
    (case c22 => k_is)
    (case k22 => k_is)
    (case a23 => k_is)
    (case l23 => k_is)
    (case c23 => k_is)
    (case k23 => k_is)
    (case a25 => k_is)
    (case l25 => k_is)
    (case c25 => k_is)
    (case k25 => k_is)
    (case a26 => k_is)
    (case l26 => k_is)
    (case c26 => k_is)
    (case k26 => k_is)
    (case a28 => k_is)
    (case l28 => k_is)
    (case c28 => k_is)
    (case k28 => k_is)
    (case a29 => k_is)
    (case l29 => k_is)
    (case c29 => k_is)
    (case k29 => k_is)
    (case a30 => k_is)
    (case l30 => k_is)
    (case c30 => k_is)
    (case k30 => k_is)
    (case a31 => k_is)
    (case l31 => k_is)
    (case c31 => k_is)
    (case k31 => k_is)
    (case a32 => k_is)
    (case l32 => k_is)
    (case c32 => k_is)
    (case k32 => k_is)
    (case a33 => k_is)
    (case l33 => k_is)
    (case c33 => k_is)
    (case k33 => k_is)
    (case a34 => k_is)
    (case l34 => k_is)
    (case c34 => k_is)
    (case k34 => k_is)
    (case a35 => k_is)
    (case l35 => k_is)
    (case c35 => k_is)
    (case k35 => k_is)
    (case a36 => k_is)
    (case l36 => k_is)
    (case c36 => k_is)
    (case k36 => k_is)
    (case a37 => k_is)
    (case l37 => k_is)
    (case c37 => k_is)
    (case k37 => k_is)
    (case aC => k_is)
    (case am0 => k_is)
    (case im0 => k_is)
    (case lm0 => k_is)
    (case cm0 => k_is)
    (case km0 => k_is)
    (case am1 => k_is)
    (case im1 => k_is)
    (case lm1 => k_is)
    (case cm1 => k_is)
    (case km1 => k_is)
    (case am2 => k_is)
    (case im2 => k_is)
    (case lm2 => k_is)
    (case cm2 => k_is)
    (case km2 => k_is)
    (case am3 => k_is)
    (case im3 => k_is)
    (case lm3 => k_is)
    (case cm3 => k_is)
    (case km3 => k_is)
    (case am4 => k_is)
    (case im4 => k_is)
    (case lm4 => k_is)
    (case cm4 => k_is)
    (case km4 => k_is)
    (case pg => k_is)
    (case hd => k_is)
    (case po => k_is)
    (case sa => k_is)
    (case mk => k_is)
    (case kc => k_is)
    (case nB => k_is)
    (case nE => k_is)
    (case aL => k_is)
    (case lL => k_is)
    (case cL => k_is)
    (case kL => k_is)
end
