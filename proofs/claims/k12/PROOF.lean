import PyProof.Rows.All
import Wide.All
import OpenK.AllK
import Wide.FinOn
import PyProof.EqAt
import PyProof.EqKinds
import PyProof.TupleCall
import HandS.ForMost
import HandS.IsInst
import HandS.SortInts
import HandS.Zip
import HandS.Wide
import HandS.NoneIn
import HandS.Conv
import PySem.Challenge.RW_spinsum_k12_whole_long_products
set_option Elab.async false
set_option linter.all false
set_option maxRecDepth 100000
set_option maxHeartbeats 4000000

namespace Spm
/-! Sums and rows over a commutative ring. -/
open Lean.Grind
section
variable {R : Type} [CommRing R]
def S (f : Nat → R) : Nat → R
  | 0 => 0
  | n + 1 => S f n + f n
theorem S_zero (f : Nat → R) : S f 0 = 0 := rfl
theorem S_succ (f : Nat → R) (n : Nat) : S f (n + 1) = S f n + f n := rfl
theorem S_congr {f g : Nat → R} : ∀ {n : Nat}, (∀ i, i < n → f i = g i) → S f n = S g n
  | 0, _ => rfl
  | n + 1, h => by
    rw [S_succ, S_succ, S_congr (fun i hi => h i (Nat.lt_succ_of_lt hi)), h n (Nat.lt_succ_self n)]
theorem S_add (f g : Nat → R) : ∀ n, S (fun i => f i + g i) n = S f n + S g n
  | 0 => by simp only [S_zero]; grind
  | n + 1 => by
    have ih := S_add f g n
    simp only [S_succ]; rw [ih]; grind
theorem S_mul (c : R) (f : Nat → R) : ∀ n, S (fun i => c * f i) n = c * S f n
  | 0 => by simp only [S_zero]; grind
  | n + 1 => by
    have ih := S_mul c f n
    simp only [S_succ]; rw [ih]; grind
theorem S_mul_r (c : R) (f : Nat → R) (n : Nat) : S (fun i => f i * c) n = S f n * c := by
  have h := S_mul c f n
  rw [S_congr (g := fun i => c * f i) (fun i _ => by grind), h]; grind
theorem S_nil (n : Nat) : S (fun _ => (0 : R)) n = 0 := by
  induction n with
  | zero => rfl
  | succ n ih => rw [S_succ, ih]; grind
theorem S_eq0 {f : Nat → R} {n : Nat} (h : ∀ i, i < n → f i = 0) : S f n = 0 := by
  rw [S_congr (g := fun _ => (0 : R)) h, S_nil]
theorem S_swap (f : Nat → Nat → R) (m : Nat) : ∀ n, S (fun i => S (fun j => f i j) m) n = S (fun j => S (fun i => f i j) n) m
  | 0 => by
    rw [S_zero, S_eq0]; intro i _; rfl
  | n + 1 => by
    rw [S_succ, S_swap f m n, ← S_add]
    rfl
theorem S_left (f : Nat → R) : ∀ n, S f (n + 1) = f 0 + S (fun i => f (i + 1)) n
  | 0 => by simp only [S_succ, S_zero]; grind
  | n + 1 => by
    rw [S_succ, S_left f n, S_succ]; grind
/-- a sum of which one place alone counts -/
theorem S_one (f : Nat → R) (k : Nat) : ∀ n, k < n → (∀ i, i < n → i ≠ k → f i = 0) → S f n = f k
  | 0, h, _ => absurd h (Nat.not_lt_zero _)
  | n + 1, h, z => by
    rw [S_succ]
    by_cases e : k = n
    · subst e
      rw [S_eq0 fun i hi => z i (Nat.lt_succ_of_lt hi) (Nat.ne_of_lt hi)]; grind
    · rw [S_one f k n (by omega) fun i hi ne => z i (Nat.lt_succ_of_lt hi) ne, z n (Nat.lt_succ_self n) fun q => e q.symm]; grind
theorem S_if (f : Nat → R) (k n : Nat) (h : k < n) : S (fun i => if i = k then f i else 0) n = f k := by
  rw [S_one _ k n h]
  · simp
  · intro i _ ne; simp [ne]
/-- with a test that only k fits -/
theorem S_pick (f : Nat → R) (c : Nat → Prop) [DecidablePred c] (k n : Nat) (h : k < n) (hc : ∀ i, i < n → (c i ↔ i = k)) : S (fun i => if c i then f i else 0) n = f k := by
  rw [S_one _ k n h]
  · rw [if_pos ((hc k h).mpr rfl)]
  · intro i hi ne
    rw [if_neg fun q => ne ((hc i hi).mp q)]
theorem S_cut (f : Nat → R) (n : Nat) : ∀ m, (∀ i, n ≤ i → i < n + m → f i = 0) → S f (n + m) = S f n
  | 0, _ => rfl
  | m + 1, h => by
    rw [← Nat.add_assoc, S_succ, S_cut f n m (fun i a b => h i a (by omega)), h (n + m) (by omega) (by omega)]; grind
/-! ### powers -/
theorem pw_zero (x : R) : x ^ 0 = 1 := Semiring.pow_zero x
theorem pw_succ (x : R) (n : Nat) : x ^ (n + 1) = x ^ n * x := Semiring.pow_succ x n
theorem pw_add (x : R) (m : Nat) : ∀ n : Nat, x ^ (m + n) = x ^ m * x ^ n
  | 0 => by rw [Nat.add_zero, pw_zero]; grind
  | n + 1 => by rw [← Nat.add_assoc, pw_succ, pw_add x m n, pw_succ]; grind
theorem pw_one : ∀ n : Nat, (1 : R) ^ n = 1
  | 0 => pw_zero 1
  | n + 1 => by rw [pw_succ, pw_one n]; grind
theorem pw_mul (x : R) (m : Nat) : ∀ n : Nat, x ^ (m * n) = (x ^ m) ^ n
  | 0 => by rw [Nat.mul_zero, pw_zero, pw_zero]
  | n + 1 => by rw [Nat.mul_succ, pw_add, pw_mul x m n, pw_succ]
theorem pw_mulb (x y : R) : ∀ n : Nat, (x * y) ^ n = x ^ n * y ^ n
  | 0 => by rw [pw_zero, pw_zero, pw_zero]; grind
  | n + 1 => by rw [pw_succ, pw_mulb x y n, pw_succ, pw_succ]; grind
theorem pw_mod {x : R} {n : Nat} (h : x ^ n = 1) (m : Nat) : x ^ (m % n) = x ^ m := by
  have e := Nat.div_add_mod m n
  have q : x ^ m = x ^ (n * (m / n) + m % n) := by rw [e]
  rw [q, pw_add, pw_mul, h, pw_one]; grind
/-- the sum of a geometric row -/
theorem geo (x : R) : ∀ n : Nat, (x - 1) * S (fun j => x ^ j) n = x ^ n - 1
  | 0 => by rw [S_zero, pw_zero]; grind
  | n + 1 => by
    have ih := geo x n
    rw [S_succ, pw_succ]; grind
/-- a number of times 1 -/
def N (R : Type) [CommRing R] (n : Nat) : R := S (fun _ => (1 : R)) n
theorem N_succ (n : Nat) : N R (n + 1) = N R n + 1 := rfl
/-- no zero divisors -/
def Dom (R : Type) [CommRing R] : Prop := ∀ a b : R, a * b = 0 → a = 0 ∨ b = 0
theorem geo0 (D : Dom R) {x : R} {n : Nat} (h : x ^ n = 1) (h1 : x ≠ 1) : S (fun j => x ^ j) n = 0 := by
  have e := geo x n
  rw [h] at e
  have e' : (x - 1) * S (fun j => x ^ j) n = 0 := by rw [e]; grind
  rcases D _ _ e' with z | z
  · exact absurd (by grind) h1
  · exact z
theorem geo1 {x : R} (n : Nat) (h : x = 1) : S (fun j => x ^ j) n = N R n := by
  subst h
  exact S_congr fun i _ => pw_one i
/-! ### a root of a size -/
/-- w is of order n -/
structure Root (w : R) (n : Nat) : Prop where
  pos : 0 < n
  one : w ^ n = 1
  low : ∀ k, 0 < k → k < n → w ^ k ≠ 1
theorem Root.eq1 {w : R} {n : Nat} (h : Root w n) (k : Nat) : w ^ k = 1 ↔ k % n = 0 := by
  constructor
  · intro e
    rw [← pw_mod h.one] at e
    by_cases z : k % n = 0
    · exact z
    · exact absurd e (h.low _ (Nat.pos_of_ne_zero z) (Nat.mod_lt _ h.pos))
  · intro e
    rw [← pw_mod h.one, e, pw_zero]
theorem Root.inv {w wi : R} {n : Nat} (h : Root w n) (hi : w * wi = 1) : Root wi n := by
  have q : ∀ k : Nat, w ^ k * wi ^ k = 1 := fun k => by rw [← pw_mulb, hi, pw_one]
  refine ⟨h.pos, ?_, fun k a b e => h.low k a b ?_⟩
  · have z := q n
    rw [h.one] at z
    grind
  · have z := q k
    rw [e] at z
    grind
/-- orthogonality, with sums of exponents -/
theorem Root.orth (D : Dom R) {w : R} {n : Nat} (h : Root w n) (m : Nat) : S (fun j => w ^ (j * m)) n = if m % n = 0 then N R n else 0 := by
  have e : S (fun j => w ^ (j * m)) n = S (fun j => (w ^ m) ^ j) n := S_congr fun j _ => by rw [Nat.mul_comm, pw_mul]
  rw [e]
  by_cases z : m % n = 0
  · rw [if_pos z, geo1 n ((h.eq1 m).mpr z)]
  · rw [if_neg z]
    refine geo0 D ?_ fun q => z ((h.eq1 m).mp q)
    rw [← pw_mul, Nat.mul_comm, pw_mul, h.one, pw_one]
/-- w^a * wi^b with wi the inverse -/
theorem Root.inv_pow {w wi : R} {n : Nat} (h : Root w n) (hi : w * wi = 1) (b : Nat) (hb : b ≤ n) : wi ^ b = w ^ (n - b) := by
  have q : w ^ b * wi ^ b = 1 := by rw [← pw_mulb, hi, pw_one]
  have e : w ^ (n - b) * w ^ b = 1 := by rw [← pw_add, Nat.sub_add_cancel hb, h.one]
  grind
/-! ### the transform -/
def F (w : R) (n : Nat) (f : Nat → R) (k : Nat) : R := S (fun j => f j * w ^ (j * k)) n
theorem F_congr {w : R} {n : Nat} {f g : Nat → R} (h : ∀ i, i < n → f i = g i) (k : Nat) : F w n f k = F w n g k := S_congr fun i hi => by rw [h i hi]
/-- transformed twice -/
theorem F_F (D : Dom R) {w : R} {n : Nat} (h : Root w n) (f : Nat → R) (m : Nat) (hm : m < n) : F w n (F w n f) m = N R n * f ((n - m) % n) := by
  unfold F
  have e : S (fun k => S (fun j => f j * w ^ (j * k)) n * w ^ (k * m)) n = S (fun j => if j = (n - m) % n then f j * N R n else 0) n := by
    rw [S_congr (g := fun k => S (fun j => f j * w ^ (j * k) * w ^ (k * m)) n) fun k _ => by rw [S_mul_r], S_swap]
    refine S_congr fun j hj => ?_
    rw [S_congr (g := fun k => f j * w ^ (k * (j + m))) fun k _ => by
      rw [Semiring.mul_assoc, ← pw_add, Nat.mul_add, Nat.mul_comm j k], S_mul, h.orth D]
    by_cases z : (j + m) % n = 0
    · rw [if_pos z, if_pos]
      have hn := h.pos
      by_cases h0 : m = 0
      · subst h0
        rw [Nat.add_zero, Nat.mod_eq_of_lt hj] at z
        rw [Nat.sub_zero, Nat.mod_self]; exact z
      · rw [Nat.mod_eq_of_lt (by omega)]
        have a : j + m < 2 * n := by omega
        have b : j + m = n := by
          rcases Nat.lt_or_ge (j + m) n with q | q
          · rw [Nat.mod_eq_of_lt q] at z; omega
          · have : (j + m - n) % n = 0 := by rw [← Nat.mod_eq_sub_mod q]; exact z
            rw [Nat.mod_eq_of_lt (by omega)] at this; omega
        omega
    · rw [if_neg z, if_neg]
      · grind
      · intro q
        refine z ?_
        have hn := h.pos
        by_cases h0 : m = 0
        · subst h0
          rw [Nat.sub_zero, Nat.mod_self] at q
          subst q; simp
        · rw [Nat.mod_eq_of_lt (by omega)] at q
          rw [q, Nat.sub_add_cancel (by omega), Nat.mod_self]
  rw [e, S_if _ _ _ (Nat.mod_lt _ h.pos)]; grind
/-- at the inverse root -/
theorem F_inv {w wi : R} {n : Nat} (h : Root w n) (hi : w * wi = 1) (f : Nat → R) (k : Nat) (hk : k < n) : F wi n f k = F w n f ((n - k) % n) := by
  refine S_congr fun j _ => ?_
  have e : wi ^ (j * k) = w ^ (j * ((n - k) % n)) := by
    rw [Nat.mul_comm, pw_mul, h.inv_pow hi k (Nat.le_of_lt hk), ← pw_mul, Nat.mul_comm j, pw_mul w ((n - k) % n), pw_mod h.one, ← pw_mul]
  rw [e]
/-- there and back -/
theorem F_back (D : Dom R) {w wi : R} {n : Nat} (h : Root w n) (hi : w * wi = 1) (f : Nat → R) (m : Nat) (hm : m < n) : F wi n (F w n f) m = N R n * f m := by
  rw [F_inv h hi _ m hm, F_F D h _ _ (Nat.mod_lt _ h.pos)]
  have e : (n - (n - m) % n) % n = m := by
    by_cases h0 : m = 0
    · subst h0; simp
    · rw [Nat.mod_eq_of_lt (show n - m < n by omega), Nat.mod_eq_of_lt (by omega)]; omega
  rw [e]
/-! ### the ring product -/
def C (n : Nat) (f g : Nat → R) (k : Nat) : R := S (fun i => S (fun j => if (i + j) % n = k then f i * g j else 0) n) n
theorem C_comm (n : Nat) (f g : Nat → R) (k : Nat) : C n f g k = C n g f k := by
  unfold C
  rw [S_swap]
  refine S_congr fun j _ => S_congr fun i _ => ?_
  rw [Nat.add_comm i j]
  by_cases h : (j + i) % n = k
  · rw [if_pos h, if_pos h]; grind
  · rw [if_neg h, if_neg h]
theorem F_C {w : R} {n : Nat} (hn : 0 < n) (h : w ^ n = 1) (f g : Nat → R) (m : Nat) : F w n (C n f g) m = F w n f m * F w n g m := by
  unfold F C
  have e1 : S (fun k => S (fun i => S (fun j => if (i + j) % n = k then f i * g j else 0) n) n * w ^ (k * m)) n
      = S (fun i => S (fun j => f i * g j * w ^ ((i + j) * m)) n) n := by
    rw [S_congr (g := fun k => S (fun i => S (fun j => if (i + j) % n = k then f i * g j * w ^ (k * m) else 0) n) n) fun k _ => by
      rw [← S_mul_r]
      refine S_congr fun i _ => ?_
      rw [← S_mul_r]
      refine S_congr fun j _ => ?_
      by_cases h : (i + j) % n = k
      · rw [if_pos h, if_pos h]
      · rw [if_neg h, if_neg h]; grind]
    rw [S_swap]
    refine S_congr fun i _ => ?_
    rw [S_swap]
    refine S_congr fun j _ => ?_
    rw [S_pick (fun k => f i * g j * w ^ (k * m)) (fun k => (i + j) % n = k) ((i + j) % n) n (Nat.mod_lt _ hn) fun k _ => ⟨fun q => q.symm, fun q => q.symm⟩]
    show f i * g j * w ^ ((i + j) % n * m) = f i * g j * w ^ ((i + j) * m)
    rw [pw_mul w ((i + j) % n), pw_mod h, ← pw_mul]
  rw [e1, ← S_mul_r]
  refine S_congr fun i _ => ?_
  rw [← S_mul]
  refine S_congr fun j _ => ?_
  rw [Nat.add_mul, pw_add]; grind
/-- as the law reckons it: by the place that is left -/
theorem C_law {n : Nat} (f g : Nat → R) (k : Nat) (hk : k < n) (d : Nat → Nat) (hd : ∀ i, i < n → d i < n ∧ ∀ j, j < n → ((i + j) % n = k ↔ j = d i)) : C n f g k = S (fun i => f i * g (d i)) n := by
  unfold C
  refine S_congr fun i hi => ?_
  obtain ⟨a, b⟩ := hd i hi
  exact S_pick (fun j => f i * g j) (fun j => (i + j) % n = k) (d i) n a b
/-! ### sums of products of transforms -/
theorem parseval (D : Dom R) {w : R} {n : Nat} (h : Root w n) (f g : Nat → R) : S (fun k => F w n f k * F w n g k) n = N R n * S (fun i => f i * g ((n - i) % n)) n := by
  have e : S (fun k => F w n f k * F w n g k) n = S (fun i => f i * F w n (F w n g) i) n := by
    unfold F
    rw [S_congr (g := fun k => S (fun i => f i * (S (fun j => g j * w ^ (j * k)) n * w ^ (k * i))) n) fun k _ => by
      rw [← S_mul_r]
      refine S_congr fun i _ => ?_
      rw [Nat.mul_comm k i]; grind]
    rw [S_swap]
    refine S_congr fun i _ => ?_
    rw [S_mul]
  rw [e, ← S_mul]
  refine S_congr fun i hi => ?_
  rw [F_F D h g i hi]; grind
end
end Spm

namespace Spm
open Lean.Grind
section
variable {R : Type} [CommRing R]
/-! Rows as polynomials. -/
def ev : List R → R → R
  | [], _ => 0
  | c :: cs, x => c + x * ev cs x
theorem ev_S : ∀ (l : List R) (x : R), ev l x = S (fun j => l.getD j 0 * x ^ j) l.length
  | [], x => rfl
  | c :: cs, x => by
    show c + x * ev cs x = S _ (cs.length + 1)
    rw [S_left, ev_S cs x, ← S_mul, pw_zero]
    have e : S (fun i => x * (cs.getD i 0 * x ^ i)) cs.length = S (fun i => (c :: cs).getD (i + 1) 0 * x ^ (i + 1)) cs.length := S_congr fun i _ => by
      rw [pw_succ]; show x * (cs.getD i 0 * x ^ i) = cs.getD i 0 * (x ^ i * x); grind
    rw [e]
    show c + _ = c * 1 + _
    grind
/-- the row that is left when x - a is taken out -/
def qd (a : R) : List R → List R
  | [] => []
  | [_] => []
  | _ :: c :: cs => ev (c :: cs) a :: qd a (c :: cs)
theorem qd_len (a : R) : ∀ l : List R, (qd a l).length = l.length - 1
  | [] => rfl
  | [_] => rfl
  | _ :: c :: cs => by
    show (qd a (c :: cs)).length + 1 = _
    rw [qd_len a (c :: cs)]; rfl
theorem qd_ev (a x : R) : ∀ l : List R, ev l x = ev l a + (x - a) * ev (qd a l) x
  | [] => by simp only [ev, qd]; grind
  | [c] => by simp only [ev, qd]; grind
  | b :: c :: cs => by
    have ih := qd_ev a x (c :: cs)
    show b + x * ev (c :: cs) x = b + a * ev (c :: cs) a + (x - a) * (ev (c :: cs) a + x * ev (qd a (c :: cs)) x)
    rw [ih]; grind
theorem qd_zero (a : R) : ∀ l : List R, (∀ c ∈ qd a l, c = 0) → ev l a = 0 → ∀ c ∈ l, c = 0
  | [], _, _ => by simp
  | [c], _, h => by
    intro d hd
    have e : d = c := by simpa using hd
    subst e
    simp only [ev] at h; grind
  | b :: c :: cs, h, h0 => by
    have h1 : ev (c :: cs) a = 0 := h _ (List.mem_cons_self ..)
    have ih := qd_zero a (c :: cs) (fun d hd => h d (List.mem_cons_of_mem _ hd)) h1
    have hb : b + a * ev (c :: cs) a = 0 := h0
    intro d hd
    rcases List.mem_cons.mp hd with e | e
    · subst e; rw [h1] at hb; grind
    · exact ih d e
/-- a row with as many worths 0 at unlike places as it has numbers is 0 -/
theorem ev_zero (D : Dom R) : ∀ (xs l : List R), l.length ≤ xs.length → xs.Nodup → (∀ x ∈ xs, ev l x = 0) → ∀ c ∈ l, c = 0
  | [], l, hl, _, _ => by
    have : l = [] := List.length_eq_zero_iff.mp (by simpa using hl)
    subst this; simp
  | a :: xs, l, hl, nd, h => by
    have ha := h a (List.mem_cons_self ..)
    refine qd_zero a l (ev_zero D xs (qd a l) (by rw [qd_len]; simp at hl; omega) (List.nodup_cons.mp nd).2 fun x hx => ?_) ha
    have e := qd_ev a x l
    rw [h x (List.mem_cons_of_mem _ hx), ha] at e
    have e' : (x - a) * ev (qd a l) x = 0 := by grind
    rcases D _ _ e' with z | z
    · exfalso
      have : x = a := by grind
      subst this
      exact (List.nodup_cons.mp nd).1 hx
    · exact z
theorem ev_sub : ∀ (l m : List R) (x : R), l.length = m.length → ev (List.zipWith (· - ·) l m) x = ev l x - ev m x
  | [], [], x, _ => by simp only [List.zipWith_nil_left, ev]; grind
  | [], _ :: _, _, h => by simp at h
  | _ :: _, [], _, h => by simp at h
  | a :: l, b :: m, x, h => by
    have ih := ev_sub l m x (by simpa using h)
    show (a - b) + x * ev (List.zipWith (· - ·) l m) x = (a + x * ev l x) - (b + x * ev m x)
    rw [ih]; grind
theorem zip_eq : ∀ (l m : List R), l.length = m.length → (∀ c ∈ List.zipWith (· - ·) l m, c = 0) → l = m
  | [], [], _, _ => rfl
  | [], _ :: _, h, _ => by simp at h
  | _ :: _, [], h, _ => by simp at h
  | a :: l, b :: m, h, z => by
    have h1 : a - b = 0 := z _ (List.mem_cons_self ..)
    have ih := zip_eq l m (by simpa using h) fun c hc => z c (List.mem_cons_of_mem _ hc)
    rw [ih]
    have : a = b := by grind
    rw [this]
/-- two rows of one length with the same worths at so many unlike places are one -/
theorem ev_eq (D : Dom R) {xs l m : List R} (h1 : l.length = xs.length) (h2 : m.length = xs.length) (nd : xs.Nodup) (h : ∀ x ∈ xs, ev l x = ev m x) : l = m := by
  have e := h1.trans h2.symm
  refine zip_eq l m e (ev_zero D xs _ (by rw [List.length_zipWith, h1, h2, Nat.min_self]; exact Nat.le_refl _) nd fun x hx => ?_)
  rw [ev_sub l m x e, h x hx]; grind
/-! ### the plain product -/
def P (n m : Nat) (f g : Nat → R) (k : Nat) : R := S (fun i => S (fun j => if i + j = k then f i * g j else 0) m) n
theorem P_comm (n m : Nat) (f g : Nat → R) (k : Nat) : P n m f g k = P m n g f k := by
  unfold P
  rw [S_swap]
  refine S_congr fun j _ => S_congr fun i _ => ?_
  rw [Nat.add_comm i j]
  by_cases h : j + i = k
  · rw [if_pos h, if_pos h]; grind
  · rw [if_neg h, if_neg h]
theorem P_ev {n m L : Nat} (hL : ∀ i j, i < n → j < m → i + j < L) (f g : Nat → R) (x : R) :
    S (fun k => P n m f g k * x ^ k) L = S (fun i => f i * x ^ i) n * S (fun j => g j * x ^ j) m := by
  have e1 : S (fun k => P n m f g k * x ^ k) L = S (fun i => S (fun j => f i * g j * x ^ (i + j)) m) n := by
    unfold P
    rw [S_congr (g := fun k => S (fun i => S (fun j => if i + j = k then f i * g j * x ^ k else 0) m) n) fun k _ => by
      rw [← S_mul_r]
      refine S_congr fun i _ => ?_
      rw [← S_mul_r]
      refine S_congr fun j _ => ?_
      by_cases h : i + j = k
      · rw [if_pos h, if_pos h]
      · rw [if_neg h, if_neg h]; grind]
    rw [S_swap]
    refine S_congr fun i hi => ?_
    rw [S_swap]
    refine S_congr fun j hj => ?_
    exact S_pick (fun k => f i * g j * x ^ k) (fun k => i + j = k) (i + j) L (hL i j hi hj) fun k _ => ⟨fun q => q.symm, fun q => q.symm⟩
  rw [e1, ← S_mul_r]
  refine S_congr fun i _ => ?_
  rw [← S_mul]
  refine S_congr fun j _ => ?_
  rw [pw_add]; grind
/-- the ring product by the plain one -/
theorem C_P {n L : Nat} (hL : ∀ i j, i < n → j < n → i + j < L) (f g : Nat → R) (k : Nat) : C n f g k = S (fun m => if m % n = k then P n n f g m else 0) L := by
  have e : S (fun m => if m % n = k then P n n f g m else 0) L = S (fun m => S (fun i => S (fun j => if i + j = m then (if m % n = k then f i * g j else 0) else 0) n) n) L := S_congr fun m _ => by
    by_cases h : m % n = k
    · rw [if_pos h]
      refine S_congr fun i _ => S_congr fun j _ => ?_
      rw [if_pos h]
    · rw [if_neg h, S_eq0]
      intro i _
      refine S_eq0 fun j _ => ?_
      rw [if_neg h]; split <;> rfl
  rw [e, S_swap]
  refine S_congr fun i hi => ?_
  rw [S_swap]
  refine S_congr fun j hj => ?_
  rw [S_pick (fun m => if m % n = k then f i * g j else 0) (fun m => i + j = m) (i + j) L (hL i j hi hj) fun k _ => ⟨fun q => q.symm, fun q => q.symm⟩]
end
end Spm

namespace Spm
/-- not told apart by a part below 32 -/
def sf (n : Nat) : Bool := (List.range 32).all fun d => Nat.ble d 1 || Nat.ble n d || !(Nat.beq (n % d) 0)
def flB (p : Nat) : Bool := (List.range p).all fun a => Nat.beq a 0 || Nat.beq (a ^ (p - 1) % p) 1
def goB (p g : Nat) : Nat → Nat → Bool
  | 0, _ => true
  | n + 1, h => !(Nat.beq h 1) && goB p g n (h * g % p)
def gens : List (Nat × Nat) := [(2, 1), (3, 2), (5, 2), (7, 3), (11, 2), (13, 2), (17, 3), (19, 2), (23, 5), (29, 2), (31, 3), (37, 2), (41, 6), (43, 3), (47, 5), (53, 2), (59, 2), (61, 2), (67, 2), (71, 7), (73, 5), (79, 3), (83, 2), (89, 3), (97, 5), (101, 2), (103, 5), (107, 2), (109, 6), (113, 3), (127, 3), (131, 2), (137, 3), (139, 2), (149, 2), (151, 6), (157, 5), (163, 2), (167, 5), (173, 2), (179, 2), (181, 2), (191, 19), (193, 5), (197, 2), (199, 3), (211, 2), (223, 3), (227, 2), (229, 6), (233, 3), (239, 7), (241, 7), (251, 6), (257, 3), (263, 5), (269, 2), (271, 6), (277, 5), (281, 3), (283, 3), (293, 2), (307, 5), (311, 17), (313, 10), (317, 2), (331, 3), (337, 10), (347, 2), (349, 2), (353, 3), (359, 7), (367, 6), (373, 2), (379, 2), (383, 5), (389, 2), (397, 5), (401, 3), (409, 21), (419, 2), (421, 2), (431, 7), (433, 5), (439, 15), (443, 2), (449, 3), (457, 13), (461, 2), (463, 3), (467, 2), (479, 13), (487, 3), (491, 2), (499, 7), (503, 5), (509, 2), (521, 3), (523, 2), (541, 2), (547, 2), (557, 2), (563, 2), (569, 3), (571, 3), (577, 5), (587, 2), (593, 3), (599, 7), (601, 7), (607, 3), (613, 2), (617, 3), (619, 2), (631, 3), (641, 3), (643, 11), (647, 5), (653, 2), (659, 2), (661, 2), (673, 5), (677, 2), (683, 5), (691, 3), (701, 2), (709, 2), (719, 11), (727, 5), (733, 6), (739, 3), (743, 5), (751, 3), (757, 2), (761, 6), (769, 11), (773, 2), (787, 2), (797, 2), (809, 3), (811, 3), (821, 2), (823, 3), (827, 2), (829, 2), (839, 11), (853, 2), (857, 3), (859, 2), (863, 5), (877, 2), (881, 3), (883, 2), (887, 5), (907, 2), (911, 17), (919, 7), (929, 3), (937, 5), (941, 2), (947, 2), (953, 3), (967, 5), (971, 6), (977, 3), (983, 5), (991, 6), (997, 7)]
def gOf (n : Nat) : List (Nat × Nat) → Nat
  | [] => 0
  | x :: r => bif Nat.beq x.1 n then x.2 else gOf n r
def goodB (n : Nat) : Bool := flB n && (goB n (gOf n gens) (n - 2) (gOf n gens) && (Nat.ble 1 (gOf n gens) && Nat.blt (gOf n gens) n))
def allB : Bool := (List.range 998).all fun n => Nat.ble n 1 || !(sf n) || goodB n
theorem all_true : allB = true := by decide +kernel
end Spm

namespace Spm
open Lean.Grind
/-! ### what a prime to 997 is known by -/
structure Good (p : Nat) : Prop where
  two : 2 ≤ p
  le : p ≤ 997
  fl : ∀ a : Nat, 0 < a → a < p → a ^ (p - 1) % p = 1
  gen : ∃ g : Nat, 0 < g ∧ g < p ∧ ∀ k : Nat, 0 < k → k < p - 1 → g ^ k % p ≠ 1
theorem goB_ok {p g : Nat} : ∀ (n h : Nat), h < p → goB p g n h = true → ∀ k, k < n → (h * g ^ k) % p ≠ 1
  | 0, _, _, _, k, hk => absurd hk (Nat.not_lt_zero _)
  | n + 1, h, hp, e, k, hk => by
    have e' : ((!(Nat.beq h 1)) && goB p g n (h * g % p)) = true := e
    rw [Bool.and_eq_true] at e'
    obtain ⟨e1, e2⟩ := e'
    cases k with
    | zero =>
      rw [Nat.pow_zero, Nat.mul_one, Nat.mod_eq_of_lt hp]
      intro q; rw [q] at e1; exact absurd e1 (by decide)
    | succ k =>
      have ih := goB_ok n (h * g % p) (Nat.mod_lt _ (by omega)) e2 k (by omega)
      rw [Nat.pow_succ, Nat.mul_comm (g ^ k) g, ← Nat.mul_assoc, Nat.mul_mod, ← Nat.mod_mod (h * g), ← Nat.mul_mod]
      exact ih
/-- no part below 32 -/
def SF (n : Nat) : Prop := 2 ≤ n ∧ n ≤ 997 ∧ ∀ d : Nat, 2 ≤ d → d < 32 → d < n → n % d ≠ 0
theorem good_of {n : Nat} (h : SF n) : Good n := by
  obtain ⟨h2, h3, h4⟩ := h
  have e : sf n = true := by
    refine List.all_eq_true.mpr fun d hd => ?_
    have hd' := List.mem_range.mp hd
    by_cases a : d ≤ 1
    · have := Nat.ble_eq.mpr a; simp [this]
    · by_cases b : n ≤ d
      · have := Nat.ble_eq.mpr b; simp [this]
      · have z := h4 d (by omega) hd' (by omega)
        have : Nat.beq (n % d) 0 = false := by
          cases q : Nat.beq (n % d) 0 with
          | false => rfl
          | true => exact absurd (Nat.eq_of_beq_eq_true q) z
        simp [this]
  have t := List.all_eq_true.mp all_true n (List.mem_range.mpr (by omega))
  rw [e] at t
  have n1 : Nat.ble n 1 = false := by
    cases q : Nat.ble n 1 with
    | false => rfl
    | true => exact absurd (Nat.ble_eq.mp q) (by omega)
  rw [n1] at t
  simp only [Bool.not_true, Bool.false_or] at t
  unfold goodB at t
  simp only [Bool.and_eq_true] at t
  obtain ⟨f, g, g1, g2⟩ := t
  refine ⟨h2, h3, fun a a0 ap => ?_, gOf n gens, Nat.ble_eq.mp g1, ?_, fun k k0 kn => ?_⟩
  · have q := List.all_eq_true.mp f a (List.mem_range.mpr ap)
    have z : Nat.beq a 0 = false := by
      cases q : Nat.beq a 0 with
      | false => rfl
      | true => exact absurd (Nat.eq_of_beq_eq_true q) (by omega)
    rw [z, Bool.false_or] at q
    exact Nat.eq_of_beq_eq_true q
  · exact Nat.ble_eq.mp g2
  · have q := goB_ok _ _ (Nat.ble_eq.mp g2) g (k - 1) (by omega)
    have : gOf n gens * gOf n gens ^ (k - 1) = gOf n gens ^ k := by
      rw [Nat.mul_comm, ← Nat.pow_succ]; congr 1; omega
    rw [this] at q
    exact q
/-! ### rests -/
/-- the way from the whole numbers to the rests by p -/
structure Hom (p : Nat) (R : Type) [CommRing R] where
  ph : Int → R
  add : ∀ a b, ph (a + b) = ph a + ph b
  mul : ∀ a b, ph (a * b) = ph a * ph b
  one : ph 1 = 1
  inj : ∀ a b, ph a = ph b ↔ a % (p : Int) = b % (p : Int)
  sur : ∀ x : R, ∃ a : Int, 0 ≤ a ∧ a < (p : Int) ∧ ph a = x
def fhom (p : Nat) [NeZero p] : Hom p (Fin p) where
  ph := fun x => ⟨(x % (p : Int)).toNat, by
    have h0 : (p : Int) ≠ 0 := by have := NeZero.ne p; omega
    have h1 := Int.emod_nonneg x h0
    have h2 := Int.emod_lt_of_pos x (show (0 : Int) < p by have := NeZero.ne p; omega)
    omega⟩
  add := fun a b => by
    have h0 : (p : Int) ≠ 0 := by have := NeZero.ne p; omega
    refine Fin.ext ?_
    show ((a + b) % (p : Int)).toNat = ((a % (p : Int)).toNat + (b % (p : Int)).toNat) % p
    refine Int.ofNat.inj ?_
    show (((a + b) % (p : Int)).toNat : Int) = (((a % (p : Int)).toNat + (b % (p : Int)).toNat) % p : Nat)
    rw [Int.toNat_of_nonneg (Int.emod_nonneg _ h0), Int.natCast_emod, Int.natCast_add, Int.toNat_of_nonneg (Int.emod_nonneg _ h0), Int.toNat_of_nonneg (Int.emod_nonneg _ h0), ← Int.add_emod]
  mul := fun a b => by
    have h0 : (p : Int) ≠ 0 := by have := NeZero.ne p; omega
    refine Fin.ext ?_
    show ((a * b) % (p : Int)).toNat = ((a % (p : Int)).toNat * (b % (p : Int)).toNat) % p
    refine Int.ofNat.inj ?_
    show (((a * b) % (p : Int)).toNat : Int) = (((a % (p : Int)).toNat * (b % (p : Int)).toNat) % p : Nat)
    rw [Int.toNat_of_nonneg (Int.emod_nonneg _ h0), Int.natCast_emod, Int.natCast_mul, Int.toNat_of_nonneg (Int.emod_nonneg _ h0), Int.toNat_of_nonneg (Int.emod_nonneg _ h0), ← Int.mul_emod]
  one := by
    have h0 : (p : Int) ≠ 0 := by have := NeZero.ne p; omega
    refine Fin.ext ?_
    show ((1 : Int) % (p : Int)).toNat = 1 % p
    refine Int.ofNat.inj ?_
    show (((1 : Int) % (p : Int)).toNat : Int) = ((1 % p : Nat) : Int)
    rw [Int.toNat_of_nonneg (Int.emod_nonneg _ h0), Int.natCast_emod]; rfl
  inj := fun a b => by
    have h0 : (p : Int) ≠ 0 := by have := NeZero.ne p; omega
    have h1 := Int.emod_nonneg a h0
    have h2 := Int.emod_nonneg b h0
    constructor
    · intro h
      have := Fin.mk.inj h
      omega
    · intro h
      refine Fin.ext ?_
      show (a % (p : Int)).toNat = (b % (p : Int)).toNat
      rw [h]
  sur := fun x => ⟨(x.val : Int), by omega, by have := x.isLt; omega, by
    refine Fin.ext ?_
    show (((x.val : Int)) % (p : Int)).toNat = x.val
    have e : ((x.val : Int)) % (p : Int) = x.val := Int.emod_eq_of_lt (by omega) (by have := x.isLt; omega)
    rw [e]; rfl⟩
section
variable {p : Nat} {R : Type} [CommRing R] (h : Hom p R)
namespace Hom
theorem zero : h.ph 0 = 0 := by
  have e := h.add 0 0
  have e' : h.ph (0 + 0) = h.ph 0 := rfl
  rw [e'] at e; grind
theorem neg (a : Int) : h.ph (-a) = - h.ph a := by
  have e := h.add a (-a)
  rw [show a + -a = 0 by omega, h.zero] at e; grind
theorem sub (a b : Int) : h.ph (a - b) = h.ph a - h.ph b := by
  rw [Int.sub_eq_add_neg, h.add, h.neg]; grind
theorem mod (a : Int) : h.ph (a % (p : Int)) = h.ph a := (h.inj _ _).mpr (Int.emod_emod_of_dvd _ (Int.dvd_refl _))
theorem pow (a : Int) (n : Nat) : h.ph (a ^ n) = h.ph a ^ n := by
  induction n with
  | zero => rw [Int.pow_zero, pw_zero, h.one]
  | succ n ih => rw [Int.pow_succ, h.mul, ih, pw_succ]
theorem S (f : Nat → Int) (n : Nat) : h.ph (Spm.S f n) = Spm.S (fun i => h.ph (f i)) n := by
  induction n with
  | zero => exact h.zero
  | succ n ih => rw [S_succ, h.add, ih]; rfl
theorem N (n : Nat) : h.ph (n : Int) = Spm.N R n := by
  induction n with
  | zero => exact h.zero
  | succ n ih => rw [show ((n + 1 : Nat) : Int) = (n : Int) + 1 from rfl, h.add, ih, h.one, N_succ]
theorem eq {a b : Int} (ha : 0 ≤ a ∧ a < p) (hb : 0 ≤ b ∧ b < p) (e : h.ph a = h.ph b) : a = b := by
  have q := (h.inj _ _).mp e
  rwa [Int.emod_eq_of_lt ha.1 ha.2, Int.emod_eq_of_lt hb.1 hb.2] at q
theorem ne0 {a : Int} (ha : 0 ≤ a ∧ a < p) : h.ph a = 0 ↔ a = 0 := by
  constructor
  · intro e
    rw [← h.zero] at e
    exact h.eq ha ⟨Int.le_refl _, by omega⟩ e
  · intro e; rw [e, h.zero]
theorem is1 (hp : 2 ≤ p) (a : Int) : h.ph a = 1 ↔ a % (p : Int) = 1 := by
  rw [← h.one, h.inj, Int.emod_eq_of_lt (show (0 : Int) ≤ 1 by omega) (by omega)]
end Hom
/-- Fermat, over the whole numbers -/
theorem Good.flI {p : Nat} (G : Good p) {a : Int} (h0 : 0 < a) (h1 : a < p) : a ^ (p - 1) % (p : Int) = 1 := by
  have e := G.fl a.toNat (by omega) (by omega)
  have q : ((a.toNat ^ (p - 1) % p : Nat) : Int) = ((1 : Nat) : Int) := by rw [e]
  rw [Int.natCast_emod, Int.natCast_pow, Int.toNat_of_nonneg (by omega)] at q
  exact q
theorem Good.flR {p : Nat} {R : Type} [CommRing R] (G : Good p) (h : Hom p R) (x : R) (hx : x ≠ 0) : x ^ (p - 1) = 1 := by
  obtain ⟨a, a0, a1, rfl⟩ := h.sur x
  have : a ≠ 0 := fun e => hx (by rw [e, h.zero])
  rw [← h.pow, h.is1 G.two]
  exact G.flI (by omega) a1
theorem Good.invR {p : Nat} {R : Type} [CommRing R] (G : Good p) (h : Hom p R) (x : R) (hx : x ≠ 0) : x * x ^ (p - 2) = 1 := by
  have e := G.flR h x hx
  have : p - 1 = (p - 2) + 1 := by have := G.two; omega
  rw [this, pw_succ] at e; grind
theorem Good.dom {p : Nat} {R : Type} [CommRing R] (G : Good p) (h : Hom p R) : Dom R := fun a b e => by
  by_cases ha : a = 0
  · exact .inl ha
  · right
    have q := G.invR h a ha
    have : b = (a * a ^ (p - 2)) * b := by rw [q]; grind
    grind
end
/-! ### orders -/
/-- n is the order of a by p -/
structure Ord (p : Nat) (a : Int) (n : Nat) : Prop where
  pos : 0 < n
  one : a ^ n % (p : Int) = 1
  low : ∀ k : Nat, 0 < k → k < n → a ^ k % (p : Int) ≠ 1
theorem Ord.uniq {p : Nat} {a : Int} {n m : Nat} (h : Ord p a n) (k : Ord p a m) : n = m := by
  rcases Nat.lt_trichotomy n m with q | q | q
  · exact absurd h.one (k.low n h.pos q)
  · exact q
  · exact absurd k.one (h.low m k.pos q)
theorem Ord.root {p : Nat} {R : Type} [CommRing R] (h : Hom p R) (hp : 2 ≤ p) {a : Int} {n : Nat} (o : Ord p a n) : Root (h.ph a) n :=
  ⟨o.pos, by rw [← h.pow, h.is1 hp]; exact o.one, fun k k0 kn => by
    rw [← h.pow, ne_eq, h.is1 hp]
    exact o.low k k0 kn⟩
theorem Ord.of_root {p : Nat} {R : Type} [CommRing R] (h : Hom p R) (hp : 2 ≤ p) {a : Int} {n : Nat} (o : Root (h.ph a) n) : Ord p a n :=
  ⟨o.pos, by rw [← h.is1 hp, h.pow]; exact o.one, fun k k0 kn => by
    rw [ne_eq, ← h.is1 hp, h.pow]
    exact o.low k k0 kn⟩
theorem Ord.mod {p : Nat} (hp : 2 ≤ p) {a : Int} {n : Nat} (o : Ord p (a % (p : Int)) n) : Ord p a n := by
  haveI : NeZero p := ⟨by omega⟩
  refine .of_root (fhom p) hp ?_
  have q := o.root (fhom p) hp
  rwa [(fhom p).mod] at q
/-- each rest above 0 has an order that goes into the prime less one: here, that it has one, to it -/
theorem Good.has_ord {p : Nat} (G : Good p) {a : Int} (h0 : 0 < a) (h1 : a < p) : ∃ n, n ≤ p - 1 ∧ Ord p a n := by
  have e := G.flI h0 h1
  have hp := G.two
  have step : ∀ m : Nat, m ≤ p - 1 → (∃ n, n ≤ m ∧ Ord p a n) ∨ ∀ k : Nat, 0 < k → k ≤ m → a ^ k % (p : Int) ≠ 1 := by
    intro m
    induction m with
    | zero => intro _; right; intro k a b; omega
    | succ m ih =>
      intro hm
      rcases ih (by omega) with ⟨n, a, b⟩ | q
      · exact .inl ⟨n, by omega, b⟩
      · by_cases z : a ^ (m + 1) % (p : Int) = 1
        · exact .inl ⟨m + 1, Nat.le_refl _, by omega, z, fun k k0 kn => q k k0 (by omega)⟩
        · right
          intro k k0 kn
          by_cases e : k = m + 1
          · subst e; exact z
          · exact q k k0 (by omega)
  rcases step (p - 1) (Nat.le_refl _) with q | q
  · exact q
  · exact absurd e (q (p - 1) (by omega) (Nat.le_refl _))
theorem Good.ord_dvd {p : Nat} (G : Good p) {a : Int} (h0 : 0 < a) (h1 : a < p) {n : Nat} (o : Ord p a n) : (p - 1) % n = 0 := by
  haveI : NeZero p := ⟨by have := G.two; omega⟩
  have r := o.root (fhom p) G.two
  refine (r.eq1 (p - 1)).mp ?_
  rw [← (fhom p).pow, (fhom p).is1 G.two]
  exact G.flI h0 h1
/-- a root of each size that goes into the prime less one -/
theorem Good.has_root {p : Nat} (G : Good p) : ∃ g : Int, 0 < g ∧ g < p ∧ ∀ s m : Nat, s * m = p - 1 → Ord p (g ^ m % (p : Int)) s := by
  obtain ⟨g, g0, g1, gk⟩ := G.gen
  have hp := G.two
  haveI : NeZero p := ⟨by omega⟩
  refine ⟨(g : Int), by omega, by omega, fun s m e => ?_⟩
  have hs : 0 < s := by
    rcases Nat.eq_zero_or_pos s with q | q
    · subst q; omega
    · exact q
  have hm : 0 < m := by
    rcases Nat.eq_zero_or_pos m with q | q
    · subst q; omega
    · exact q
  refine .of_root (fhom p) hp ?_
  rw [(fhom p).mod, (fhom p).pow]
  refine ⟨hs, ?_, fun k k0 ks => ?_⟩
  · rw [← pw_mul, Nat.mul_comm, e, ← (fhom p).pow, (fhom p).is1 hp]
    exact G.flI (by omega) (by omega)
  · rw [← pw_mul, ← (fhom p).pow, ne_eq, (fhom p).is1 hp]
    have lt : m * k < p - 1 := by
      rw [← e, Nat.mul_comm]
      exact Nat.mul_lt_mul_of_pos_right ks hm
    have q := gk (m * k) (Nat.mul_pos hm k0) lt
    intro z
    apply q
    refine Int.ofNat.inj ?_
    show ((g ^ (m * k) % p : Nat) : Int) = ((1 : Nat) : Int)
    rw [Int.natCast_emod, Int.natCast_pow]; exact z
end Spm

namespace Spm
open Lean.Grind
/-! What the program's defs reckon, over the whole numbers. -/
/-- the worth of a row at x by p -/
def hor (p : Nat) (row : List Int) (x : Int) : Int := row.foldr (fun c a => (a * x + c) % (p : Int)) 0
theorem hor_cons (p : Nat) (c : Int) (row : List Int) (x : Int) : hor p (c :: row) x = (hor p row x * x + c) % (p : Int) := rfl
theorem hor_nil (p : Nat) (x : Int) : hor p [] x = 0 := rfl
theorem hor_bd {p : Nat} (hp : 0 < p) (row : List Int) (x : Int) : 0 ≤ hor p row x ∧ hor p row x < p := by
  cases row with
  | nil => exact ⟨Int.le_refl _, by show (0 : Int) < p; omega⟩
  | cons c row =>
    rw [hor_cons]
    exact ⟨Int.emod_nonneg _ (by omega), Int.emod_lt_of_pos _ (by omega)⟩
theorem hor_drop {p : Nat} {row : List Int} {x z : Int} {i : Nat} (hi : i < row.length) (h : row[row.length - 1 - i]? = some z) :
    hor p (row.drop (row.length - (i + 1))) x = (hor p (row.drop (row.length - i)) x * x + z) % (p : Int) := by
  have e1 : row.length - (i + 1) = row.length - 1 - i := by omega
  have e2 : row.length - i = row.length - 1 - i + 1 := by omega
  rw [e1, e2]
  obtain ⟨hl, e⟩ := List.getElem?_eq_some_iff.mp h
  rw [List.drop_eq_getElem_cons hl, e, hor_cons]
theorem hor_ph {p : Nat} {R : Type} [CommRing R] (h : Hom p R) (x : Int) : ∀ row : List Int, h.ph (hor p row x) = ev (row.map h.ph) (h.ph x)
  | [] => h.zero
  | c :: row => by
    rw [hor_cons, h.mod, h.add, h.mul, hor_ph h x row]
    show ev (row.map h.ph) (h.ph x) * h.ph x + h.ph c = h.ph c + h.ph x * ev (row.map h.ph) (h.ph x)
    grind
/-- a number's power by p -/
def pwm (p : Nat) (a : Int) (n : Nat) : Int := a ^ n % (p : Int)
theorem pwm_bd {p : Nat} (hp : 0 < p) (a : Int) (n : Nat) : 0 ≤ pwm p a n ∧ pwm p a n < p :=
  ⟨Int.emod_nonneg _ (by omega), Int.emod_lt_of_pos _ (by omega)⟩
theorem pwm_ph {p : Nat} {R : Type} [CommRing R] (h : Hom p R) (a : Int) (n : Nat) : h.ph (pwm p a n) = h.ph a ^ n := by
  unfold pwm
  rw [h.mod, h.pow]
theorem nz {p : Nat} (hp : 0 < p) : NeZero p := ⟨by omega⟩
/-- one turn of the quick power: an odd number of times -/
theorem quick_odd {p : Nat} (hp : 0 < p) {f b e : Int} {q n : Nat} {a : Int} (hq : e.toNat = 2 * q + 1) (h : (f * b ^ e.toNat) % (p : Int) = a ^ n % (p : Int)) :
    ((f * b % (p : Int)) * (b * b % (p : Int)) ^ q) % (p : Int) = a ^ n % (p : Int) := by
  haveI := nz hp
  rw [← h]
  refine ((fhom p).inj _ _).mp ?_
  rw [(fhom p).mul, (fhom p).mod, (fhom p).mul, (fhom p).pow, (fhom p).mod, (fhom p).mul, (fhom p).mul, (fhom p).pow, hq, pw_succ, Nat.mul_comm, pw_mul, pw_mulb, ← pw_mul, Nat.mul_comm q 2, pw_mul]
  have e2 : (fhom p).ph b ^ 2 = (fhom p).ph b * (fhom p).ph b := by rw [show (2 : Nat) = 1 + 1 from rfl, pw_succ, show (1 : Nat) = 0 + 1 from rfl, pw_succ, pw_zero]; grind
  rw [← pw_mulb, ← e2]
  grind
theorem quick_even {p : Nat} (hp : 0 < p) {f b e : Int} {q n : Nat} {a : Int} (hq : e.toNat = 2 * q) (h : (f * b ^ e.toNat) % (p : Int) = a ^ n % (p : Int)) :
    (f * (b * b % (p : Int)) ^ q) % (p : Int) = a ^ n % (p : Int) := by
  haveI := nz hp
  rw [← h]
  refine ((fhom p).inj _ _).mp ?_
  rw [(fhom p).mul, (fhom p).pow, (fhom p).mod, (fhom p).mul, (fhom p).mul, (fhom p).pow, hq, pw_mul]
  have e2 : (fhom p).ph b ^ 2 = (fhom p).ph b * (fhom p).ph b := by rw [show (2 : Nat) = 1 + 1 from rfl, pw_succ, show (1 : Nat) = 0 + 1 from rfl, pw_succ, pw_zero]; grind
  rw [e2]
/-- one factor more -/
theorem pwm_succ {p : Nat} (a : Int) (n : Nat) : pwm p a (n + 1) = pwm p a n * a % (p : Int) := by
  unfold pwm
  rw [Int.pow_succ, Int.mul_emod, Int.mul_emod (a ^ n % (p : Int)) a, Int.emod_emod_of_dvd _ (Int.dvd_refl _)]
/-- the inverse by p -/
def inv (p : Nat) (a : Int) : Int := pwm p a (p - 2)
/-- the numbers of a row's transform: its worths at the root's powers -/
def spn (p : Nat) (root : Int) (row : List Int) : List Int := (List.range row.length).map fun k => hor p row (pwm p root k)
end Spm

namespace Spm
open Lean.Grind
/-! Plain and ring products as lists of whole numbers, reckoned place by place. -/
/-- the number at a place -/
def at0 (l : List Int) (i : Nat) : Int := l.getD i 0
theorem at0_of {l : List Int} {i : Nat} {z : Int} (h : l[i]? = some z) : at0 l i = z := by
  unfold at0
  rw [List.getD_eq_getElem?_getD, h]
  rfl
theorem at0_get {l : List Int} {i : Nat} (h : i < l.length) : l[i]? = some (at0 l i) := by
  rw [List.getElem?_eq_getElem h]
  exact congrArg some (at0_of (List.getElem?_eq_getElem h)).symm
theorem at0_map {f : Nat → Int} {n i : Nat} (h : i < n) : at0 ((List.range n).map f) i = f i := by
  refine at0_of ?_
  rw [List.getElem?_map, List.getElem?_range h]
  rfl
/-- the sum of the products that were added at place k when rows 0 .. i - 1 are done and of row i the places below j -/
def part (A B : List Int) (i j k : Nat) : Int :=
  S (fun i' => S (fun j' => if i' + j' = k then at0 A i' * at0 B j' else 0) B.length) i + S (fun j' => if i + j' = k then at0 A i * at0 B j' else 0) j
def partL (p : Nat) (A B : List Int) (i j : Nat) : List Int := (List.range (A.length + B.length - 1)).map fun k => part A B i j k % (p : Int)
/-- the plain product -/
def mulL (p : Nat) (A B : List Int) : List Int := (List.range (A.length + B.length - 1)).map fun k => P A.length B.length (at0 A) (at0 B) k % (p : Int)
theorem partL_len (p : Nat) (A B : List Int) (i j : Nat) : (partL p A B i j).length = A.length + B.length - 1 := by
  unfold partL
  rw [List.length_map, List.length_range]
theorem mulL_len (p : Nat) (A B : List Int) : (mulL p A B).length = A.length + B.length - 1 := by
  unfold mulL
  rw [List.length_map, List.length_range]
theorem ext0 {l m : List Int} {n : Nat} (h1 : l.length = n) (h2 : m.length = n) (h : ∀ i, i < n → at0 l i = at0 m i) : l = m := by
  refine List.ext_getElem (h1.trans h2.symm) fun i a b => ?_
  have e := h i (by omega)
  rw [at0_of (List.getElem?_eq_getElem a), at0_of (List.getElem?_eq_getElem b)] at e
  exact e
theorem int_add0 (a : Int) : a + (0 : Int) = a := Int.add_zero a
theorem partL_start (p : Nat) (A B : List Int) : partL p A B 0 0 = List.replicate (A.length + B.length - 1) 0 := by
  refine ext0 (partL_len ..) (List.length_replicate ..) fun i hi => ?_
  unfold partL
  rw [at0_map hi]
  have e : at0 (List.replicate (A.length + B.length - 1) (0 : Int)) i = 0 := at0_of (by rw [List.getElem?_replicate, if_pos hi])
  rw [e]
  show ((0 : Int) + 0) % (p : Int) = 0
  simp
theorem partL_row (p : Nat) (A B : List Int) (i : Nat) : partL p A B i B.length = partL p A B (i + 1) 0 := by
  unfold partL
  refine List.map_congr_left fun k _ => ?_
  congr 1
  unfold part
  rw [S_succ, S_zero]
  exact (int_add0 _).symm
theorem partL_end (p : Nat) (A B : List Int) : partL p A B A.length 0 = mulL p A B := by
  unfold partL mulL
  refine List.map_congr_left fun k _ => ?_
  congr 1
  unfold part P
  rw [S_zero]
  exact int_add0 _
theorem part_step (A B : List Int) (i j k : Nat) : part A B i (j + 1) k = part A B i j k + (if i + j = k then at0 A i * at0 B j else 0) := by
  unfold part
  rw [S_succ]
  exact (Int.add_assoc _ _ _).symm
theorem partL_step (p : Nat) (A B : List Int) {i j : Nat} (hi : i < A.length) (hj : j < B.length) :
    (partL p A B i j).set (i + j) ((at0 (partL p A B i j) (i + j) + at0 A i * at0 B j) % (p : Int)) = partL p A B i (j + 1) := by
  have hb : i + j < A.length + B.length - 1 := by omega
  refine ext0 (by rw [List.length_set, partL_len]) (partL_len ..) fun k hk => ?_
  have e2 : at0 (partL p A B i (j + 1)) k = part A B i (j + 1) k % (p : Int) := by unfold partL; rw [at0_map hk]
  have e1 : at0 (partL p A B i j) k = part A B i j k % (p : Int) := by unfold partL; rw [at0_map hk]
  rw [e2, part_step]
  by_cases c : i + j = k
  · rw [if_pos c]
    rw [c] at hb ⊢
    rw [at0_of (by rw [List.getElem?_set_self (by rw [partL_len]; exact hk)]), e1, Int.emod_add_emod]
  · rw [if_neg c, int_add0]
    rw [show at0 ((partL p A B i j).set (i + j) _) k = at0 (partL p A B i j) k by
      unfold at0
      rw [List.getD_eq_getElem?_getD, List.getElem?_set_ne c, ← List.getD_eq_getElem?_getD]]
    exact e1
/-! ### folded to n places -/
def foldL (p n : Nat) (L : List Int) (t : Nat) : List Int := (List.range n).map fun k => S (fun m => if m % n = k then at0 L m else 0) t % (p : Int)
theorem foldL_len (p n : Nat) (L : List Int) (t : Nat) : (foldL p n L t).length = n := by
  unfold foldL
  rw [List.length_map, List.length_range]
theorem foldL_start (p n : Nat) (L : List Int) : foldL p n L 0 = List.replicate n 0 := by
  refine ext0 (foldL_len ..) (List.length_replicate ..) fun i hi => ?_
  unfold foldL
  rw [at0_map hi]
  have e : at0 (List.replicate n (0 : Int)) i = 0 := at0_of (by rw [List.getElem?_replicate, if_pos hi])
  rw [e, S_zero]
  exact Int.zero_emod _
theorem foldL_step (p : Nat) {n t : Nat} (L : List Int) (hn : 0 < n) :
    (foldL p n L t).set (t % n) ((at0 (foldL p n L t) (t % n) + at0 L t) % (p : Int)) = foldL p n L (t + 1) := by
  refine ext0 (by rw [List.length_set, foldL_len]) (foldL_len ..) fun k hk => ?_
  have e2 : at0 (foldL p n L (t + 1)) k = (S (fun m => if m % n = k then at0 L m else 0) t + (if t % n = k then at0 L t else 0)) % (p : Int) := by
    unfold foldL
    rw [at0_map hk]
    rfl
  have e1 : at0 (foldL p n L t) k = S (fun m => if m % n = k then at0 L m else 0) t % (p : Int) := by unfold foldL; rw [at0_map hk]
  rw [e2]
  by_cases c : t % n = k
  · rw [if_pos c, c]
    rw [at0_of (by rw [List.getElem?_set_self (by rw [foldL_len]; exact hk)]), e1, Int.emod_add_emod]
  · rw [if_neg c, int_add0]
    rw [show at0 ((foldL p n L t).set (t % n) _) k = at0 (foldL p n L t) k by
      unfold at0
      rw [List.getD_eq_getElem?_getD, List.getElem?_set_ne c, ← List.getD_eq_getElem?_getD]]
    exact e1
/-- the ring product -/
def ringL (p : Nat) (A B : List Int) : List Int := foldL p A.length (mulL p A B) (mulL p A B).length
theorem ringL_len (p : Nat) (A B : List Int) : (ringL p A B).length = A.length := foldL_len ..
end Spm

namespace Spm
/-! Primes as the program looks at them; the sizes; a root of a size. -/
def tbl : List Int := [2, 3, 5, 7, 11, 13, 17, 19, 23, 29, 31, 37, 41, 61, 97, 193, 257, 337, 577, 997]
/-- no part below 32, as the law looks (whole numbers) -/
def NoPart (f : Int) : Prop := ∀ d : Int, 2 ≤ d → d < 32 → ¬ (d < f ∧ f % d = 0)
theorem sf_of {f : Int} (h2 : 2 ≤ f) (h3 : f ≤ 997) (h : NoPart f) : SF f.toNat := by
  refine ⟨by omega, by omega, fun d d2 d3 dn e => ?_⟩
  refine h (d : Int) (by omega) (by omega) ⟨by omega, ?_⟩
  have q : ((f.toNat % d : Nat) : Int) = ((0 : Nat) : Int) := by rw [e]
  rw [Int.natCast_emod, Int.toNat_of_nonneg (by omega)] at q
  exact q
def npB (f : Int) : Bool := (List.range 32).all fun d => decide (d < 2) || !(decide ((d : Int) < f) && decide (f % (d : Int) = 0))
theorem np_of {f : Int} (h : npB f = true) : NoPart f := by
  intro d d2 d3 ⟨a, b⟩
  have q := List.all_eq_true.mp h d.toNat (List.mem_range.mpr (by omega))
  have e : ((d.toNat : Nat) : Int) = d := Int.toNat_of_nonneg (by omega)
  rw [e] at q
  have c1 : decide (d.toNat < 2) = false := decide_eq_false (by omega)
  rw [c1, decide_eq_true a, decide_eq_true b] at q
  exact absurd q (by decide)
theorem tbl_np : tbl.all (fun f => decide (2 ≤ f) && (decide (f ≤ 997) && npB f)) = true := by decide +kernel
theorem tbl_ok {i : Nat} (h : i < 20) : SF (at0 tbl i).toNat ∧ 2 ≤ at0 tbl i ∧ at0 tbl i ≤ 997 := by
  have m : at0 tbl i ∈ tbl := List.mem_of_getElem? (at0_get (l := tbl) (i := i) h)
  have q := List.all_eq_true.mp tbl_np _ m
  rw [Bool.and_eq_true, Bool.and_eq_true] at q
  have a := of_decide_eq_true q.1
  have b := of_decide_eq_true q.2.1
  exact ⟨sf_of a b (np_of q.2.2), a, b⟩
theorem np997 : NoPart 997 := np_of (by decide +kernel)
/-- as is_prime looks -/
def PrimeP (n : Int) : Prop := 2 ≤ n ∧ n ≤ 997 ∧ ∀ d : Int, 2 ≤ d → d < n → ¬ (d * d ≤ n ∧ n % d = 0)
theorem prime_of_sf {p : Nat} (h : SF p) : PrimeP (p : Int) := by
  obtain ⟨h2, h3, h4⟩ := h
  refine ⟨by omega, by omega, fun d d2 dn ⟨a, b⟩ => ?_⟩
  have d32 : d < 32 := by
    by_cases q : d < 32
    · exact q
    · have : 32 * 32 ≤ d * d := Int.mul_le_mul (by omega) (by omega) (by omega) (by omega)
      omega
  refine h4 d.toNat (by omega) (by omega) (by omega) ?_
  have e : ((d.toNat : Nat) : Int) = d := Int.toNat_of_nonneg (by omega)
  have q : ((p % d.toNat : Nat) : Int) = 0 := by rw [Int.natCast_emod, e]; exact b
  omega
/-- on the way round to a generator -/
def dist (p : Nat) (g one : Int) : Nat := if one ≤ g then (g - one).toNat else (g - one + (p - 1)).toNat
theorem dist_next {p : Nat} {g one : Int} (hp : 2 ≤ p) (g0 : 0 < g) (g1 : g < p) (o0 : 1 ≤ one) (o1 : one < p) (ne : one ≠ g) :
    1 ≤ 1 + one % ((p : Int) - 1) ∧ 1 + one % ((p : Int) - 1) < p ∧ dist p g (1 + one % ((p : Int) - 1)) < dist p g one := by
  by_cases c : one = (p : Int) - 1
  · have e : one % ((p : Int) - 1) = 0 := by rw [c]; exact Int.emod_self
    rw [e]
    unfold dist
    refine ⟨by omega, by omega, ?_⟩
    rw [if_pos (by omega), if_neg (by omega)]
    omega
  · have e : one % ((p : Int) - 1) = one := Int.emod_eq_of_lt (by omega) (by omega)
    rw [e]
    unfold dist
    refine ⟨by omega, by omega, ?_⟩
    by_cases q : one ≤ g
    · rw [if_pos (by omega), if_pos q]; omega
    · rw [if_neg (by omega), if_neg q]; omega
/-- a power of a rest above 0 is above 0 -/
theorem pwm_pos {p : Nat} (G : Good p) {a : Int} (h0 : 0 < a) (h1 : a < p) (n : Nat) : 1 ≤ pwm p a n ∧ pwm p a n < p := by
  obtain ⟨b0, b1⟩ := pwm_bd (p := p) (by have := G.two; omega) a n
  refine ⟨?_, b1⟩
  by_cases c : pwm p a n = 0
  · exfalso
    haveI : NeZero p := ⟨by have := G.two; omega⟩
    have D := G.dom (fhom p)
    have e : (fhom p).ph a ^ n = 0 := by rw [← pwm_ph, c, (fhom p).zero]
    have z : ∀ m : Nat, (fhom p).ph a ^ m ≠ 0 := fun m => by
      induction m with
      | zero =>
        rw [pw_zero, ← (fhom p).one]
        intro q
        have := ((fhom p).ne0 ⟨by omega, by have := G.two; omega⟩).mp q
        omega
      | succ m ih =>
        rw [pw_succ]
        intro q
        rcases D _ _ q with r | r
        · exact ih r
        · have := ((fhom p).ne0 ⟨by omega, h1⟩).mp r
          omega
    exact z n e
  · omega
end Spm

namespace Spm
/-! Law 1: powers by the rest by the prime less one; the inverse. -/
theorem pwm_zero {p : Nat} (hp : 2 ≤ p) (x : Int) : pwm p x 0 = 1 := by
  show x ^ 0 % (p : Int) = 1
  rw [Int.pow_zero]
  exact Int.emod_eq_of_lt (by omega) (by omega)
theorem pwm_0 {p : Nat} {n : Nat} (hn : 0 < n) : pwm p 0 n = 0 := by
  show (0 : Int) ^ n % (p : Int) = 0
  rw [Int.zero_pow (by omega), Int.zero_emod]
theorem pwm_fermat {p : Nat} (G : Good p) {x : Int} (h0 : 0 < x) (h1 : x < p) (n : Nat) : pwm p x (n % (p - 1)) = pwm p x n := by
  haveI : NeZero p := ⟨by have := G.two; omega⟩
  have hp : 0 < p := by have := G.two; omega
  refine (fhom p).eq (pwm_bd hp _ _) (pwm_bd hp _ _) ?_
  rw [pwm_ph, pwm_ph]
  refine pw_mod (G.flR (fhom p) _ fun z => ?_) n
  have := ((fhom p).ne0 ⟨by omega, h1⟩).mp z
  omega
theorem inv_mul {p : Nat} (G : Good p) {x : Int} (h0 : 0 < x) (h1 : x < p) : inv p x * x % (p : Int) = 1 := by
  haveI : NeZero p := ⟨by have := G.two; omega⟩
  rw [← (fhom p).is1 G.two, (fhom p).mul]
  unfold inv
  rw [pwm_ph]
  have e := G.invR (fhom p) ((fhom p).ph x) (fun z => by
    have := ((fhom p).ne0 ⟨by omega, h1⟩).mp z
    omega)
  grind
theorem toNat_mod {e : Int} {p : Nat} (he : 0 ≤ e) (hp : 2 ≤ p) : (e % ((p : Int) - 1)).toNat = e.toNat % (p - 1) := by
  have h : ((e.toNat % (p - 1) : Nat) : Int) = e % ((p : Int) - 1) := by
    rw [Int.natCast_emod, Int.toNat_of_nonneg he, show ((p - 1 : Nat) : Int) = (p : Int) - 1 by omega]
  rw [← h, Int.toNat_natCast]
end Spm

namespace Spm
open Lean.Grind
/-! Rows turned: the lists as the transform over the rests. -/
theorem sum_S (f : Nat → Int) : ∀ n, ((List.range n).map f).sum = S f n
  | 0 => rfl
  | n + 1 => by
    rw [List.range_succ, List.map_append, List.sum_append, sum_S f n, S_succ]
    show _ + ((f n) + 0) = _
    rw [Int.add_zero]
theorem sum_at0 : ∀ l : List Int, l.sum = S (at0 l) l.length := fun l => by
  have e : l = (List.range l.length).map (at0 l) := ext0 rfl (by rw [List.length_map, List.length_range]) fun i hi => (at0_map hi).symm
  rw [← sum_S, ← e]
section
variable {p : Nat} {R : Type} [CommRing R] (h : Hom p R)
theorem map_getD (row : List Int) (j : Nat) : (row.map h.ph).getD j 0 = h.ph (at0 row j) := by
  unfold at0
  rw [List.getD_eq_getElem?_getD, List.getD_eq_getElem?_getD, List.getElem?_map]
  cases row[j]? with
  | none => exact h.zero.symm
  | some z => rfl
theorem hor_S (row : List Int) (x : Int) : h.ph (hor p row x) = S (fun j => h.ph (at0 row j) * h.ph x ^ j) row.length := by
  rw [hor_ph, ev_S, List.length_map]
  exact S_congr fun j _ => by rw [map_getD]
/-- the numbers of a row among the rests -/
def phr (row : List Int) (j : Nat) : R := h.ph (at0 row j)
theorem spn_len (p : Nat) (x : Int) (row : List Int) : (spn p x row).length = row.length := by
  unfold spn
  rw [List.length_map, List.length_range]
theorem spn_at {x : Int} {row : List Int} {k : Nat} (hk : k < row.length) : at0 (spn p x row) k = hor p row (pwm p x k) := by
  unfold spn
  rw [at0_map hk]
theorem spn_ph {x : Int} {row : List Int} {k : Nat} (hk : k < row.length) : phr h (spn p x row) k = F (h.ph x) row.length (phr h row) k := by
  unfold phr
  rw [spn_at hk, hor_S]
  refine S_congr fun j _ => ?_
  rw [pwm_ph, ← pw_mul, Nat.mul_comm k j]
theorem spn_bd (hp : 0 < p) {x : Int} {row : List Int} : ∀ z ∈ spn p x row, 0 ≤ z ∧ z < p := by
  intro z hz
  unfold spn at hz
  obtain ⟨k, _, e⟩ := List.mem_map.mp hz
  rw [← e]
  exact hor_bd hp _ _
end
/-- lists of rests with the same numbers among the rests are one -/
theorem rests_ext {p : Nat} {R : Type} [CommRing R] (h : Hom p R) {l m : List Int} {n : Nat} (h1 : l.length = n) (h2 : m.length = n) (b1 : ∀ z ∈ l, 0 ≤ z ∧ z < p) (b2 : ∀ z ∈ m, 0 ≤ z ∧ z < p)
    (e : ∀ i, i < n → phr h l i = phr h m i) : l = m := by
  refine ext0 h1 h2 fun i hi => ?_
  refine h.eq (b1 _ (List.mem_of_getElem? (at0_get (by omega)))) (b2 _ (List.mem_of_getElem? (at0_get (by omega)))) (e i hi)
/-- as the law turns: by the root's powers, their places taken by the length -/
def lawT (p : Nat) (x : Int) (row : List Int) : List Int :=
  (List.range row.length).map fun k => ((List.range row.length).map fun j => at0 row j * pwm p x (j * k % row.length)).sum % (p : Int)
theorem lawT_eq {p : Nat} (hp : 2 ≤ p) {x : Int} {row : List Int} (o : Ord p x row.length) : lawT p x row = spn p x row := by
  haveI : NeZero p := ⟨by omega⟩
  have r := o.root (fhom p) hp
  refine rests_ext (fhom p) (n := row.length) (by unfold lawT; rw [List.length_map, List.length_range]) (spn_len ..) ?_ (spn_bd (by omega)) fun k hk => ?_
  · intro z hz
    unfold lawT at hz
    obtain ⟨k, _, e⟩ := List.mem_map.mp hz
    rw [← e]
    exact ⟨Int.emod_nonneg _ (by omega), Int.emod_lt_of_pos _ (by omega)⟩
  · rw [spn_ph _ hk]
    unfold phr lawT
    rw [at0_map hk, (fhom p).mod, sum_S, (fhom p).S]
    refine S_congr fun j _ => ?_
    rw [(fhom p).mul, pwm_ph, pw_mod r.one]
end Spm

namespace Spm
open Lean.Grind
/-! Law 13: sums of products. -/
theorem emod_bd {p : Nat} (hp : 0 < p) (a : Int) : 0 ≤ a % (p : Int) ∧ a % (p : Int) < p := ⟨Int.emod_nonneg _ (by omega), Int.emod_lt_of_pos _ (by omega)⟩
theorem first_sum {p : Nat} (hp : 2 ≤ p) {x : Int} {A : List Int} (hn : 0 < A.length) : at0 (spn p x A) 0 = A.sum % (p : Int) := by
  haveI : NeZero p := ⟨by omega⟩
  refine (fhom p).eq (spn_bd (by omega) _ (List.mem_of_getElem? (at0_get (by rw [spn_len]; exact hn)))) (emod_bd (by omega) _) ?_
  have e := spn_ph (fhom p) (x := x) (row := A) hn
  unfold phr at e
  rw [e, (fhom p).mod, sum_at0, (fhom p).S]
  refine S_congr fun j _ => ?_
  rw [Nat.mul_zero, pw_zero]
  exact Semiring.mul_one _
theorem sum_first {p : Nat} (G : Good p) {x : Int} {A : List Int} (o : Ord p x A.length) : (spn p x A).sum % (p : Int) = (A.length : Int) * at0 A 0 % (p : Int) := by
  have hp := G.two
  haveI : NeZero p := ⟨by omega⟩
  have r := o.root (fhom p) hp
  rw [← (fhom p).inj, sum_at0, (fhom p).S, spn_len, (fhom p).mul, (fhom p).N]
  have e := F_F (G.dom (fhom p)) r (phr (fhom p) A) 0 o.pos
  rw [Nat.sub_zero, Nat.mod_self] at e
  unfold phr at e
  rw [← e]
  unfold F
  refine S_congr fun k hk => ?_
  rw [Nat.mul_zero, pw_zero]
  have q := spn_ph (fhom p) (x := x) (row := A) hk
  unfold phr F at q
  rw [q]
  exact (Semiring.mul_one _).symm
theorem law13 {p : Nat} (G : Good p) {x : Int} {A B : List Int} (hB : B.length = A.length) (o : Ord p x A.length) :
    ((List.range A.length).map fun k => at0 (spn p x A) k * at0 (spn p x B) k).sum % (p : Int) = (A.length : Int) * ((List.range A.length).map fun k => at0 A k * at0 B ((A.length - k) % A.length)).sum % (p : Int) := by
  have hp := G.two
  haveI : NeZero p := ⟨by omega⟩
  have r := o.root (fhom p) hp
  rw [← (fhom p).inj, sum_S, sum_S, (fhom p).S, (fhom p).mul, (fhom p).S, (fhom p).N]
  have e := parseval (G.dom (fhom p)) r (phr (fhom p) A) (phr (fhom p) B)
  have e1 : S (fun i => (fhom p).ph (at0 (spn p x A) i * at0 (spn p x B) i)) A.length = S (fun k => F ((fhom p).ph x) A.length (phr (fhom p) A) k * F ((fhom p).ph x) A.length (phr (fhom p) B) k) A.length := S_congr fun k hk => by
    have q1 := spn_ph (fhom p) (x := x) (row := A) hk
    have q2 := spn_ph (fhom p) (x := x) (row := B) (k := k) (by omega)
    rw [hB] at q2
    rw [(fhom p).mul, ← q1, ← q2]
    rfl
  rw [e1, e]
  congr 1
  refine S_congr fun k _ => ?_
  rw [(fhom p).mul]
  rfl
end Spm

namespace Spm
open Lean.Grind
/-! Law 8: shifts and contrary rows. -/
/-- moved round by one -/
def moved (A : List Int) : List Int := A.drop (A.length - 1) ++ A.take (A.length - 1)
theorem moved_len (A : List Int) : (moved A).length = A.length := by
  unfold moved
  rw [List.length_append, List.length_drop, List.length_take]
  omega
theorem moved_0 {A : List Int} (h : 0 < A.length) : at0 (moved A) 0 = at0 A (A.length - 1) := by
  refine at0_of ?_
  unfold moved
  rw [List.getElem?_append_left (by rw [List.length_drop]; omega), List.getElem?_drop]
  exact at0_get (by omega)
theorem moved_succ {A : List Int} {i : Nat} (h : i + 1 < A.length) : at0 (moved A) (i + 1) = at0 A i := by
  refine at0_of ?_
  unfold moved
  have e : (A.drop (A.length - 1)).length = 1 := by rw [List.length_drop]; omega
  rw [List.getElem?_append_right (by rw [e]; omega), e, Nat.add_sub_cancel, List.getElem?_take, if_pos (by omega)]
  exact at0_get (by omega)
theorem law8_moved {p : Nat} (G : Good p) {x : Int} {A : List Int} (o : Ord p x A.length) :
    spn p x (moved A) = (List.range A.length).map fun k => at0 (spn p x A) k * pwm p x k % (p : Int) := by
  have hp := G.two
  haveI : NeZero p := ⟨by omega⟩
  have r := o.root (fhom p) hp
  have hn := o.pos
  refine rests_ext (fhom p) (n := A.length) (by rw [spn_len, moved_len]) (by rw [List.length_map, List.length_range]) (spn_bd (by omega)) ?_ fun k hk => ?_
  · intro z hz
    obtain ⟨k, _, e⟩ := List.mem_map.mp hz
    rw [← e]
    exact emod_bd (by omega) _
  · have q1 := spn_ph (fhom p) (x := x) (row := moved A) (k := k) (by rw [moved_len]; exact hk)
    rw [q1, moved_len]
    unfold phr
    rw [at0_map hk, (fhom p).mod, (fhom p).mul, pwm_ph]
    have q2 := spn_ph (fhom p) (x := x) (row := A) hk
    unfold phr at q2
    rw [q2]
    unfold F
    obtain ⟨m, em⟩ : ∃ m, A.length = m + 1 := ⟨A.length - 1, by omega⟩
    have e1 : S (fun j => (fhom p).ph (at0 (moved A) j) * (fhom p).ph x ^ (j * k)) A.length = (fhom p).ph (at0 A m) + S (fun j => (fhom p).ph (at0 A j) * (fhom p).ph x ^ (j * k) * (fhom p).ph x ^ k) m := by
      rw [em, S_left, moved_0 hn, Nat.zero_mul, pw_zero, show A.length - 1 = m by omega]
      have e2 : S (fun i => (fhom p).ph (at0 (moved A) (i + 1)) * (fhom p).ph x ^ ((i + 1) * k)) m = S (fun j => (fhom p).ph (at0 A j) * (fhom p).ph x ^ (j * k) * (fhom p).ph x ^ k) m := S_congr fun i hi => by
        rw [moved_succ (by omega), Nat.add_mul, Nat.one_mul, pw_add]
        exact (Semiring.mul_assoc _ _ _).symm
      rw [e2]
      grind
    rw [e1, em, S_succ, S_mul_r]
    have e3 : (fhom p).ph x ^ (m * k) * (fhom p).ph x ^ k = 1 := by
      rw [← pw_add, show m * k + k = (m + 1) * k by rw [Nat.add_mul, Nat.one_mul], ← em, pw_mul, r.one, pw_one]
    grind
theorem law8_back {p : Nat} (G : Good p) {x : Int} {A : List Int} (o : Ord p x A.length) :
    spn p (pwm p x (A.length - 1)) A = (List.range A.length).map fun k => at0 (spn p x A) ((A.length - k) % A.length) := by
  have hp := G.two
  haveI : NeZero p := ⟨by omega⟩
  have r := o.root (fhom p) hp
  have hn := o.pos
  refine rests_ext (fhom p) (n := A.length) (spn_len ..) (by rw [List.length_map, List.length_range]) (spn_bd (by omega)) ?_ fun k hk => ?_
  · intro z hz
    obtain ⟨k, _, e⟩ := List.mem_map.mp hz
    rw [← e]
    exact spn_bd (by omega) _ (List.mem_of_getElem? (at0_get (by rw [spn_len]; exact Nat.mod_lt _ hn)))
  · rw [spn_ph _ hk]
    unfold phr
    rw [at0_map hk]
    have q2 := spn_ph (fhom p) (x := x) (row := A) (k := (A.length - k) % A.length) (Nat.mod_lt _ hn)
    unfold phr at q2
    rw [q2, pwm_ph]
    refine F_inv r ?_ _ k hk
    have e : (fhom p).ph x * (fhom p).ph x ^ (A.length - 1) = (fhom p).ph x ^ A.length := by
      have e2 : A.length = (A.length - 1) + 1 := by omega
      rw [show (fhom p).ph x ^ A.length = (fhom p).ph x ^ ((A.length - 1) + 1) by rw [← e2], pw_succ]
      grind
    rw [e, r.one]
/-- the order of the root's inverse -/
theorem ord_back {p : Nat} (G : Good p) {x : Int} {n : Nat} (o : Ord p x n) : Ord p (pwm p x (n - 1)) n := by
  have hp := G.two
  haveI : NeZero p := ⟨by omega⟩
  have r := o.root (fhom p) hp
  have hn := o.pos
  refine .of_root (fhom p) hp ?_
  refine r.inv ?_
  rw [pwm_ph]
  have e : (fhom p).ph x * (fhom p).ph x ^ (n - 1) = (fhom p).ph x ^ n := by
    have e2 : n = (n - 1) + 1 := by omega
    rw [show (fhom p).ph x ^ n = (fhom p).ph x ^ ((n - 1) + 1) by rw [← e2], pw_succ]
    grind
  rw [e, r.one]
theorem law8_twice {p : Nat} (G : Good p) {x : Int} {A : List Int} (o : Ord p x A.length) :
    spn p x (spn p x A) = (List.range A.length).map fun k => (A.length : Int) * at0 A ((A.length - k) % A.length) % (p : Int) := by
  have hp := G.two
  haveI : NeZero p := ⟨by omega⟩
  have r := o.root (fhom p) hp
  have hn := o.pos
  refine rests_ext (fhom p) (n := A.length) (by rw [spn_len, spn_len]) (by rw [List.length_map, List.length_range]) (spn_bd (by omega)) ?_ fun k hk => ?_
  · intro z hz
    obtain ⟨k, _, e⟩ := List.mem_map.mp hz
    rw [← e]
    exact emod_bd (by omega) _
  · rw [spn_ph _ (by rw [spn_len]; exact hk), spn_len]
    rw [F_congr (g := F ((fhom p).ph x) A.length (phr (fhom p) A)) (fun i hi => spn_ph _ hi), F_F (G.dom (fhom p)) r _ k hk]
    unfold phr
    rw [at0_map hk, (fhom p).mod, (fhom p).mul, (fhom p).N]
/-- 1 at place 0 alone -/
def unit (n : Nat) : List Int := 1 :: List.replicate (n - 1) 0
theorem unit_len {n : Nat} (h : 0 < n) : (unit n).length = n := by
  unfold unit
  rw [List.length_cons, List.length_replicate]
  omega
theorem unit_at {n i : Nat} (h : i < n) : at0 (unit n) i = if i = 0 then 1 else 0 := by
  cases i with
  | zero => rw [if_pos rfl]; exact at0_of rfl
  | succ i =>
    rw [if_neg (by omega)]
    refine at0_of ?_
    unfold unit
    rw [List.getElem?_cons_succ, List.getElem?_replicate, if_pos (by omega)]
theorem law8_unit {p : Nat} (G : Good p) {x : Int} {n : Nat} (hn : 0 < n) : spn p x (unit n) = List.replicate n 1 := by
  have hp := G.two
  haveI : NeZero p := ⟨by omega⟩
  refine rests_ext (fhom p) (n := n) (by rw [spn_len, unit_len hn]) (List.length_replicate ..) (spn_bd (by omega)) ?_ fun k hk => ?_
  · intro z hz
    rw [(List.mem_replicate.mp hz).2]
    exact ⟨by omega, by omega⟩
  · rw [spn_ph _ (by rw [unit_len hn]; exact hk), unit_len hn]
    unfold phr F
    rw [at0_of (l := List.replicate n (1 : Int)) (z := 1) (by rw [List.getElem?_replicate, if_pos hk]), (fhom p).one]
    rw [S_one _ 0 n hn fun i hi ne => by
      show (fhom p).ph (at0 (unit n) i) * _ = 0
      rw [unit_at hi, if_neg ne, (fhom p).zero]; exact Semiring.zero_mul _]
    show (fhom p).ph (at0 (unit n) 0) * _ = 1
    rw [unit_at hn, if_pos rfl, (fhom p).one, Nat.zero_mul, pw_zero]
    exact Semiring.mul_one _
theorem law8_ones {p : Nat} (G : Good p) {x : Int} {n : Nat} (o : Ord p x n) : spn p x (List.replicate n 1) = (unit n).map fun k => (n : Int) * k % (p : Int) := by
  have hp := G.two
  haveI : NeZero p := ⟨by omega⟩
  have r := o.root (fhom p) hp
  have hn := o.pos
  refine rests_ext (fhom p) (n := n) (by rw [spn_len, List.length_replicate]) (by rw [List.length_map, unit_len hn]) (spn_bd (by omega)) ?_ fun k hk => ?_
  · intro z hz
    obtain ⟨k, _, e⟩ := List.mem_map.mp hz
    rw [← e]
    exact emod_bd (by omega) _
  · rw [spn_ph _ (by rw [List.length_replicate]; exact hk), List.length_replicate]
    have e : at0 ((unit n).map fun k => (n : Int) * k % (p : Int)) k = (n : Int) * at0 (unit n) k % (p : Int) := by
      refine at0_of ?_
      rw [List.getElem?_map, at0_get (by rw [unit_len hn]; exact hk)]
      rfl
    unfold phr F
    rw [e, (fhom p).mod, (fhom p).mul, (fhom p).N, unit_at hk]
    rw [S_congr (g := fun j => (fhom p).ph x ^ (j * k)) fun j hj => by
      show (fhom p).ph (at0 (List.replicate n 1) j) * _ = _
      rw [at0_of (l := List.replicate n (1 : Int)) (z := 1) (by rw [List.getElem?_replicate, if_pos hj]), (fhom p).one]
      exact Semiring.one_mul _]
    rw [r.orth (G.dom (fhom p)), Nat.mod_eq_of_lt hk]
    by_cases c : k = 0
    · rw [if_pos c, if_pos c, (fhom p).one]
      exact (Semiring.mul_one _).symm
    · rw [if_neg c, if_neg c, (fhom p).zero]
      exact (Semiring.mul_zero _).symm
end Spm

namespace Spm
open Lean.Grind
/-! Law 6: there and back. -/
def backL (p : Nat) (x : Int) (row : List Int) : List Int := (spn p (inv p x) row).map fun z => z * inv p row.length % (p : Int)
theorem backL_len (p : Nat) (x : Int) (row : List Int) : (backL p x row).length = row.length := by
  unfold backL
  rw [List.length_map, spn_len]
theorem backL_bd {p : Nat} (hp : 0 < p) (x : Int) (row : List Int) : ∀ z ∈ backL p x row, 0 ≤ z ∧ z < p := by
  intro z hz
  obtain ⟨k, _, e⟩ := List.mem_map.mp hz
  rw [← e]
  exact emod_bd hp _
theorem backL_at {p : Nat} {x : Int} {row : List Int} {k : Nat} (hk : k < row.length) : at0 (backL p x row) k = at0 (spn p (inv p x) row) k * inv p row.length % (p : Int) := by
  refine at0_of ?_
  unfold backL
  rw [List.getElem?_map, at0_get (by rw [spn_len]; exact hk)]
  rfl
theorem ph_inv {p : Nat} {R : Type} [CommRing R] (h : Hom p R) (G : Good p) {x : Int} (h0 : 0 < x) (h1 : x < p) : h.ph x * h.ph (inv p x) = 1 := by
  have e := (h.is1 G.two _).mpr (inv_mul G h0 h1)
  rw [h.mul] at e
  grind
theorem ord_lt {p : Nat} (G : Good p) {x : Int} (h0 : 0 < x) (h1 : x < p) {n : Nat} (o : Ord p x n) : n < p := by
  have d := Nat.dvd_of_mod_eq_zero (G.ord_dvd h0 h1 o)
  have := Nat.le_of_dvd (by have := G.two; omega) d
  have := G.two
  omega
theorem back_turned {p : Nat} (G : Good p) {x : Int} {A : List Int} (x0 : 0 < x) (x1 : x < p) (hA : ∀ z ∈ A, 0 ≤ z ∧ z < (p : Int)) (o : Ord p x A.length) : backL p x (spn p x A) = A := by
  have hp := G.two
  haveI : NeZero p := ⟨by omega⟩
  have r := o.root (fhom p) hp
  have hn := o.pos
  have nlt := ord_lt G x0 x1 o
  have hi := ph_inv (fhom p) G x0 x1
  have hN := ph_inv (fhom p) G (x := (A.length : Int)) (by omega) (by omega)
  refine rests_ext (fhom p) (n := A.length) (by rw [backL_len, spn_len]) rfl (backL_bd (by omega) _ _) hA fun k hk => ?_
  unfold phr
  rw [backL_at (by rw [spn_len]; exact hk), (fhom p).mod, (fhom p).mul, spn_len]
  have q := spn_ph (fhom p) (x := inv p x) (row := spn p x A) (k := k) (by rw [spn_len]; exact hk)
  unfold phr at q
  rw [q, spn_len]
  have q2 : F ((fhom p).ph (inv p x)) A.length (fun j => (fhom p).ph (at0 (spn p x A) j)) k = N (Fin p) A.length * (fhom p).ph (at0 A k) := by
    show F ((fhom p).ph (inv p x)) A.length (phr (fhom p) (spn p x A)) k = N (Fin p) A.length * (fhom p).ph (at0 A k)
    rw [F_congr (g := F ((fhom p).ph x) A.length (phr (fhom p) A)) (fun i hi => spn_ph (fhom p) hi), F_back (G.dom (fhom p)) r hi _ k hk]
    rfl
  rw [q2, ← (fhom p).N]
  grind
theorem turned_backL {p : Nat} (G : Good p) {x : Int} {A : List Int} (x0 : 0 < x) (x1 : x < p) (hA : ∀ z ∈ A, 0 ≤ z ∧ z < (p : Int)) (o : Ord p x A.length) : spn p x (backL p x A) = A := by
  have hp := G.two
  haveI : NeZero p := ⟨by omega⟩
  have r := o.root (fhom p) hp
  have hn := o.pos
  have nlt := ord_lt G x0 x1 o
  have hi := ph_inv (fhom p) G x0 x1
  have hN := ph_inv (fhom p) G (x := (A.length : Int)) (by omega) (by omega)
  have ri := r.inv hi
  refine rests_ext (fhom p) (n := A.length) (by rw [spn_len, backL_len]) rfl (spn_bd (by omega)) hA fun k hk => ?_
  rw [spn_ph (fhom p) (by rw [backL_len]; exact hk), backL_len]
  rw [F_congr (g := fun j => F ((fhom p).ph (inv p x)) A.length (phr (fhom p) A) j * (fhom p).ph (inv p A.length)) fun j hj => by
    unfold phr
    rw [backL_at hj, (fhom p).mod, (fhom p).mul]
    have q := spn_ph (fhom p) (x := inv p x) (row := A) hj
    unfold phr at q
    rw [q]]
  have e : F ((fhom p).ph x) A.length (fun j => F ((fhom p).ph (inv p x)) A.length (phr (fhom p) A) j * (fhom p).ph (inv p A.length)) k = F ((fhom p).ph x) A.length (F ((fhom p).ph (inv p x)) A.length (phr (fhom p) A)) k * (fhom p).ph (inv p A.length) := by
    rw [F, F, ← S_mul_r]
    refine S_congr fun j _ => ?_
    grind
  rw [e, F_back (G.dom (fhom p)) ri (by grind) _ k hk, ← (fhom p).N]
  grind
end Spm

namespace Spm
open Lean.Grind
/-! Law 3: orders and roots. -/
open Classical in
noncomputable def ordF (p : Nat) (a : Int) : Nat := if h : ∃ n, Ord p a n then Classical.choose h else 0
theorem ordF_ok {p : Nat} (G : Good p) {a : Int} (h0 : 0 < a) (h1 : a < p) : Ord p a (ordF p a) := by
  obtain ⟨n, _, o⟩ := G.has_ord h0 h1
  have h : ∃ n, Ord p a n := ⟨n, o⟩
  unfold ordF
  rw [dif_pos h]
  exact Classical.choose_spec h
/-- the roots of a size among the first i rests from 1 on -/
noncomputable def rootsP (p : Nat) (size : Int) (i : Nat) : List Int := ((List.range i).filter fun j : Nat => decide ((ordF p (1 + (j : Int)) : Int) = size)).map fun j : Nat => (1 : Int) + (j : Int)
noncomputable def rootsL (p : Nat) (size : Int) : List Int := rootsP p size (p - 1)
theorem rootsP_yes {p : Nat} {size : Int} {i : Nat} (h : (ordF p (1 + (i : Int)) : Int) = size) : rootsP p size (i + 1) = rootsP p size i ++ [1 + (i : Int)] := by
  unfold rootsP
  rw [List.range_succ, List.filter_append, List.map_append, List.filter_cons, if_pos (decide_eq_true h)]
  rfl
theorem rootsP_no {p : Nat} {size : Int} {i : Nat} (h : (ordF p (1 + (i : Int)) : Int) ≠ size) : rootsP p size (i + 1) = rootsP p size i := by
  unfold rootsP
  rw [List.range_succ, List.filter_append, List.map_append, List.filter_cons, if_neg (by rw [decide_eq_true_eq]; exact h)]
  exact List.append_nil _
theorem rootsP_len (p : Nat) (size : Int) (i : Nat) : (rootsP p size i).length ≤ i := by
  unfold rootsP
  rw [List.length_map]
  exact Nat.le_trans (List.length_filter_le _ _) (by rw [List.length_range]; exact Nat.le_refl _)
theorem rootsP_0 (p : Nat) (size : Int) : rootsP p size 0 = [] := rfl
/-- no roots of a size that doesn't go into the prime less one -/
theorem rootsL_nil {p : Nat} (G : Good p) {size : Int} (h : size < 1 ∨ ((p : Int) - 1) % size ≠ 0) : rootsL p size = [] := by
  have all : ∀ i, i ≤ p - 1 → rootsP p size i = [] := by
    intro i
    induction i with
    | zero => intro _; rfl
    | succ i ih =>
      intro hi
      rw [rootsP_no, ih (by omega)]
      intro e
      have o := ordF_ok G (a := 1 + (i : Int)) (by omega) (by omega)
      have d := G.ord_dvd (by omega) (by omega) o
      rcases h with h | h
      · have := o.pos; omega
      · apply h
        rw [← e, show (p : Int) - 1 = ((p - 1 : Nat) : Int) by have := G.two; omega, ← Int.natCast_emod, d]
        rfl
  exact all (p - 1) (Nat.le_refl _)
theorem rootsL_ne {p : Nat} (G : Good p) {size : Int} (h1 : 1 ≤ size) (h2 : ((p : Int) - 1) % size = 0) : 0 < (rootsL p size).length := by
  obtain ⟨g, g0, g1, hg⟩ := G.has_root
  have hp := G.two
  have e : ((size.toNat : Nat) : Int) = size := Int.toNat_of_nonneg (by omega)
  have d : (p - 1) % size.toNat = 0 := by
    have q : (((p - 1) % size.toNat : Nat) : Int) = 0 := by
      rw [Int.natCast_emod, e, show ((p - 1 : Nat) : Int) = (p : Int) - 1 by omega]
      exact h2
    omega
  have o := hg size.toNat ((p - 1) / size.toNat) (Nat.mul_div_cancel' (Nat.dvd_of_mod_eq_zero d))
  obtain ⟨b0, b1⟩ := pwm_pos G (a := g) (by omega) g1 ((p - 1) / size.toNat)
  have o' : Ord p (pwm p g ((p - 1) / size.toNat)) size.toNat := o
  generalize pwm p g ((p - 1) / size.toNat) = r at o' b0 b1
  refine List.length_pos_of_mem (a := r) ?_
  unfold rootsL rootsP
  refine List.mem_map.mpr ⟨(r - 1).toNat, List.mem_filter.mpr ⟨List.mem_range.mpr (by omega), ?_⟩, by omega⟩
  rw [decide_eq_true_eq, show (1 : Int) + ((r - 1).toNat : Int) = r by omega, (ordF_ok G (a := r) (by omega) b1).uniq o', e]
end Spm

namespace Spm
open Lean.Grind
/-! Products of rows. -/
section
variable {p : Nat} {R : Type} [CommRing R] (h : Hom p R)
theorem ph_P (n m : Nat) (f g : Nat → Int) (k : Nat) : h.ph (P n m f g k) = P n m (fun i => h.ph (f i)) (fun j => h.ph (g j)) k := by
  unfold P
  rw [h.S]
  refine S_congr fun i _ => ?_
  rw [h.S]
  refine S_congr fun j _ => ?_
  by_cases c : i + j = k
  · rw [if_pos c, if_pos c, h.mul]
  · rw [if_neg c, if_neg c, h.zero]
theorem mulL_at {A B : List Int} {k : Nat} (hk : k < A.length + B.length - 1) : at0 (mulL p A B) k = P A.length B.length (at0 A) (at0 B) k % (p : Int) := by
  unfold mulL
  rw [at0_map hk]
theorem mulL_ph {A B : List Int} {k : Nat} (hk : k < A.length + B.length - 1) : phr h (mulL p A B) k = P A.length B.length (phr h A) (phr h B) k := by
  unfold phr
  rw [mulL_at hk, h.mod, ph_P]
end
theorem mulL_bd {p : Nat} (hp : 0 < p) (A B : List Int) : ∀ z ∈ mulL p A B, 0 ≤ z ∧ z < p := by
  intro z hz
  obtain ⟨k, _, e⟩ := List.mem_map.mp hz
  rw [← e]
  exact emod_bd hp _
/-- the worth, added up power by power -/
theorem worth_sum {p : Nat} (hp : 0 < p) (row : List Int) (x : Int) : ((List.range row.length).map fun k => at0 row k * pwm p x k).sum % (p : Int) = hor p row x := by
  haveI : NeZero p := ⟨by omega⟩
  refine (fhom p).eq (emod_bd hp _) (hor_bd hp _ _) ?_
  rw [(fhom p).mod, sum_S, (fhom p).S, hor_S]
  refine S_congr fun k _ => ?_
  rw [(fhom p).mul, pwm_ph]
theorem worth_mul {p : Nat} (hp : 0 < p) (A B : List Int) (x : Int) : hor p (mulL p A B) x = hor p A x * hor p B x % (p : Int) := by
  haveI : NeZero p := ⟨by omega⟩
  refine (fhom p).eq (hor_bd hp _ _) (emod_bd hp _) ?_
  rw [(fhom p).mod, (fhom p).mul, hor_S, hor_S, hor_S, mulL_len, ← P_ev (L := A.length + B.length - 1) (fun i j hi hj => by omega)]
  refine S_congr fun k hk => ?_
  have e := mulL_ph (fhom p) (A := A) (B := B) hk
  unfold phr at e
  rw [e]
/-! ### the ring product -/
section
variable {p : Nat} {R : Type} [CommRing R] (h : Hom p R)
theorem ringL_ph {A B : List Int} (hB : B.length = A.length) {k : Nat} (hk : k < A.length) : phr h (ringL p A B) k = C A.length (phr h A) (phr h B) k := by
  unfold phr ringL foldL
  rw [at0_map hk, h.mod, h.S, mulL_len, hB]
  rw [C_P (L := A.length + A.length - 1) (fun i j hi hj => by omega)]
  refine S_congr fun m hm => ?_
  by_cases c : m % A.length = k
  · rw [if_pos c, if_pos c]
    have e := mulL_ph h (A := A) (B := B) (k := m) (by omega)
    rw [hB] at e
    exact e
  · rw [if_neg c, if_neg c, h.zero]
end
theorem ringL_bd {p : Nat} (hp : 0 < p) (A B : List Int) : ∀ z ∈ ringL p A B, 0 ≤ z ∧ z < p := by
  intro z hz
  obtain ⟨k, _, e⟩ := List.mem_map.mp hz
  rw [← e]
  exact emod_bd hp _
theorem ringL_comm {p : Nat} (hp : 0 < p) {A B : List Int} (hB : B.length = A.length) : ringL p B A = ringL p A B := by
  haveI : NeZero p := ⟨by omega⟩
  refine rests_ext (fhom p) (n := A.length) (by rw [ringL_len, hB]) (ringL_len ..) (ringL_bd hp _ _) (ringL_bd hp _ _) fun k hk => ?_
  rw [ringL_ph _ hB hk, ringL_ph _ hB.symm (by omega), hB, C_comm]
/-- where the second's place is what is left -/
def rot (n k i : Nat) : Nat := (k + (n - i)) % n
theorem rot_int {n k i : Nat} (hn : 0 < n) (hi : i < n) : (((k : Int)) - (i : Int)) % (n : Int) = (rot n k i : Int) := by
  unfold rot
  rw [Int.natCast_emod, Int.natCast_add, show ((n - i : Nat) : Int) = (n : Int) - i by omega, show (k : Int) + ((n : Int) - i) = (k : Int) - i + n by omega, Int.add_emod_right]
/-- as the law reckons it -/
def lawR (p : Nat) (A B : List Int) : List Int := (List.range A.length).map fun k => ((List.range A.length).map fun i => at0 A i * at0 B (rot A.length k i)).sum % (p : Int)
theorem rot_iff {n k i : Nat} (hk : k < n) (hi : i < n) : rot n k i < n ∧ ∀ j, j < n → ((i + j) % n = k ↔ j = rot n k i) := by
  have hn : 0 < n := by omega
  refine ⟨Nat.mod_lt _ hn, fun j hj => ?_⟩
  unfold rot
  constructor
  · intro e
    subst e
    by_cases c : i + j < n
    · rw [Nat.mod_eq_of_lt c, show i + j + (n - i) = j + n by omega, Nat.add_mod_right, Nat.mod_eq_of_lt hj]
    · have e1 : (i + j) % n = i + j - n := by rw [Nat.mod_eq_sub_mod (by omega), Nat.mod_eq_of_lt (by omega)]
      rw [e1, show i + j - n + (n - i) = j by omega, Nat.mod_eq_of_lt hj]
  · intro e
    subst e
    by_cases c : k + (n - i) < n
    · rw [Nat.mod_eq_of_lt c, show i + (k + (n - i)) = k + n by omega, Nat.add_mod_right, Nat.mod_eq_of_lt hk]
    · have e1 : (k + (n - i)) % n = k + (n - i) - n := by rw [Nat.mod_eq_sub_mod (by omega), Nat.mod_eq_of_lt (by omega)]
      rw [e1, show i + (k + (n - i) - n) = k by omega, Nat.mod_eq_of_lt hk]
theorem lawR_eq {p : Nat} (hp : 0 < p) {A B : List Int} (hB : B.length = A.length) : lawR p A B = ringL p A B := by
  haveI : NeZero p := ⟨by omega⟩
  refine rests_ext (fhom p) (n := A.length) (by unfold lawR; rw [List.length_map, List.length_range]) (ringL_len ..) ?_ (ringL_bd hp _ _) fun k hk => ?_
  · intro z hz
    obtain ⟨k, _, e⟩ := List.mem_map.mp hz
    rw [← e]
    exact emod_bd hp _
  · rw [ringL_ph _ hB hk, C_law _ _ k hk (rot A.length k) fun i hi => rot_iff hk hi]
    unfold phr lawR
    rw [at0_map hk, (fhom p).mod, sum_S, (fhom p).S]
    refine S_congr fun i _ => ?_
    rw [(fhom p).mul]
/-- turned, the ring product is the product place by place -/
theorem turned_ring {p : Nat} (G : Good p) {x : Int} {A B : List Int} (hB : B.length = A.length) (o : Ord p x A.length) :
    spn p x (ringL p A B) = (List.range A.length).map fun k => at0 (spn p x A) k * at0 (spn p x B) k % (p : Int) := by
  have hp := G.two
  haveI : NeZero p := ⟨by omega⟩
  have r := o.root (fhom p) hp
  have hn := o.pos
  refine rests_ext (fhom p) (n := A.length) (by rw [spn_len, ringL_len]) (by rw [List.length_map, List.length_range]) (spn_bd (by omega)) ?_ fun k hk => ?_
  · intro z hz
    obtain ⟨k, _, e⟩ := List.mem_map.mp hz
    rw [← e]
    exact emod_bd (by omega) _
  · rw [spn_ph _ (by rw [ringL_len]; exact hk), ringL_len, F_congr (g := C A.length (phr (fhom p) A) (phr (fhom p) B)) (fun i hi => ringL_ph _ hB hi), F_C hn r.one]
    unfold phr
    rw [at0_map hk, (fhom p).mod, (fhom p).mul]
    have q1 := spn_ph (fhom p) (x := x) (row := A) hk
    have q2 := spn_ph (fhom p) (x := x) (row := B) (k := k) (by omega)
    rw [hB] at q2
    unfold phr at q1 q2
    rw [q1, q2]
end Spm

namespace Spm
open Lean.Grind
/-! Rows through points. -/
/-- a row with s times another one added at the places below j -/
def addL (p : Nat) (Fd : List Int) (s : Int) (W : List Int) (j : Nat) : List Int := (List.range Fd.length).map fun k => if k < j then (at0 Fd k + s * at0 W k) % (p : Int) else at0 Fd k
theorem addL_len (p : Nat) (Fd : List Int) (s : Int) (W : List Int) (j : Nat) : (addL p Fd s W j).length = Fd.length := by
  unfold addL
  rw [List.length_map, List.length_range]
theorem addL_at {p : Nat} {Fd : List Int} {s : Int} {W : List Int} {j k : Nat} (hk : k < Fd.length) : at0 (addL p Fd s W j) k = if k < j then (at0 Fd k + s * at0 W k) % (p : Int) else at0 Fd k := by
  unfold addL
  rw [at0_map hk]
theorem addL_0 (p : Nat) (Fd : List Int) (s : Int) (W : List Int) : addL p Fd s W 0 = Fd :=
  ext0 (addL_len ..) rfl fun k hk => by rw [addL_at hk, if_neg (by omega)]
theorem addL_step (p : Nat) (Fd : List Int) (s : Int) (W : List Int) {j : Nat} (hj : j < Fd.length) :
    (addL p Fd s W j).set j ((at0 (addL p Fd s W j) j + s * at0 W j) % (p : Int)) = addL p Fd s W (j + 1) := by
  refine ext0 (by rw [List.length_set, addL_len]) (addL_len ..) fun k hk => ?_
  by_cases c : j = k
  · subst c
    rw [at0_of (by rw [List.getElem?_set_self (by rw [addL_len]; exact hk)]), addL_at hk, addL_at hk, if_neg (by omega), if_pos (by omega)]
  · rw [show at0 ((addL p Fd s W j).set j _) k = at0 (addL p Fd s W j) k by
      unfold at0
      rw [List.getD_eq_getElem?_getD, List.getElem?_set_ne c, ← List.getD_eq_getElem?_getD], addL_at hk, addL_at hk]
    by_cases d : k < j
    · rw [if_pos d, if_pos (by omega)]
    · rw [if_neg d, if_neg (by omega)]
theorem at0_out {l : List Int} {k : Nat} (h : l.length ≤ k) : at0 l k = 0 := by
  unfold at0
  rw [List.getD_eq_getElem?_getD, List.getElem?_eq_none h]
  rfl
theorem addL_bd {p : Nat} (hp : 0 < p) {Fd : List Int} (hF : ∀ z ∈ Fd, 0 ≤ z ∧ z < (p : Int)) (s : Int) (W : List Int) (j : Nat) : ∀ z ∈ addL p Fd s W j, 0 ≤ z ∧ z < (p : Int) := by
  intro z hz
  obtain ⟨k, hk, e⟩ := List.mem_map.mp hz
  have hk' := List.mem_range.mp hk
  rw [← e]
  by_cases c : k < j
  · rw [if_pos c]
    exact emod_bd hp _
  · rw [if_neg c]
    exact hF _ (List.mem_of_getElem? (at0_get hk'))
/-- the worth of the sum -/
theorem hor_add {p : Nat} (hp : 0 < p) (Fd : List Int) (s : Int) (W : List Int) (hW : W.length ≤ Fd.length) (x : Int) :
    hor p (addL p Fd s W W.length) x = (hor p Fd x + s * hor p W x) % (p : Int) := by
  haveI : NeZero p := ⟨by omega⟩
  refine (fhom p).eq (hor_bd hp _ _) (emod_bd hp _) ?_
  rw [(fhom p).mod, (fhom p).add, (fhom p).mul, hor_S, hor_S, hor_S, addL_len]
  have e : S (fun j => (fhom p).ph (at0 (addL p Fd s W W.length) j) * (fhom p).ph x ^ j) Fd.length = S (fun j => (fhom p).ph (at0 Fd j) * (fhom p).ph x ^ j + (fhom p).ph s * ((fhom p).ph (at0 W j) * (fhom p).ph x ^ j)) Fd.length := S_congr fun k hk => by
    rw [addL_at hk]
    by_cases c : k < W.length
    · rw [if_pos c, (fhom p).mod, (fhom p).add, (fhom p).mul]
      grind
    · rw [if_neg c, at0_out (l := W) (by omega), (fhom p).zero]
      grind
  rw [e, S_add, S_mul]
  obtain ⟨m, hm⟩ : ∃ m, Fd.length = W.length + m := ⟨Fd.length - W.length, by omega⟩
  have e2 : S (fun i => (fhom p).ph (at0 W i) * (fhom p).ph x ^ i) Fd.length = S (fun i => (fhom p).ph (at0 W i) * (fhom p).ph x ^ i) W.length := by
    rw [hm]
    refine S_cut _ _ _ fun i hi _ => ?_
    rw [at0_out hi, (fhom p).zero]
    grind
  rw [e2]
/-- the worth of the factor x - a -/
theorem hor_lin {p : Nat} {R : Type} [CommRing R] (h : Hom p R) (a x : Int) : h.ph (hor p [(-a) % (p : Int), 1] x) = h.ph x - h.ph a := by
  rw [hor_ph]
  simp only [List.map_cons, List.map_nil, ev]
  rw [h.mod, h.neg, h.one]
  grind
/-- what the loop over the points keeps: found has as its worths the seconds, whole is 0 at just the firsts -/
structure Thru (p n : Nat) (done : List (Int × Int)) (Fd W : List Int) : Prop where
  fl : Fd.length = n
  fb : ∀ z ∈ Fd, 0 ≤ z ∧ z < (p : Int)
  wl : W.length = done.length + 1
  wb : ∀ z ∈ W, 0 ≤ z ∧ z < (p : Int)
  firsts : ∀ q ∈ done, 0 ≤ q.1 ∧ q.1 < (p : Int)
  hits : ∀ q ∈ done, hor p Fd q.1 = q.2
  zero : ∀ x : Int, 0 ≤ x → x < (p : Int) → (hor p W x = 0 ↔ x ∈ done.map (·.1))
theorem Thru.start {p : Nat} (hp : 2 ≤ p) (n : Nat) : Thru p n [] (List.replicate n 0) [1] where
  fl := List.length_replicate ..
  fb := fun z hz => by rw [(List.mem_replicate.mp hz).2]; exact ⟨by omega, by omega⟩
  wl := rfl
  wb := fun z hz => by rw [List.mem_singleton.mp hz]; exact ⟨by omega, by omega⟩
  firsts := fun q hq => absurd hq (List.not_mem_nil)
  hits := fun q hq => absurd hq (List.not_mem_nil)
  zero := fun x _ _ => by
    have e : hor p [1] x = 1 := by
      rw [hor_cons, hor_nil, Int.zero_mul, Int.zero_add]
      exact Int.emod_eq_of_lt (by omega) (by omega)
    rw [e]
    simp
theorem Thru.turn {p n : Nat} (G : Good p) {done : List (Int × Int)} {Fd W : List Int} {x y : Int} (T : Thru p n done Fd W) (hd : done.length < n) (x0 : 0 ≤ x) (x1 : x < p) (y0 : 0 ≤ y) (y1 : y < p) (nx : x ∉ done.map (·.1)) :
    (1 ≤ hor p W x ∧ hor p W x < p) ∧
    Thru p n (done ++ [(x, y)]) (addL p Fd ((y - hor p Fd x) * inv p (hor p W x) % (p : Int)) W W.length) (mulL p W [(-x) % (p : Int), 1]) := by
  have hp := G.two
  haveI : NeZero p := ⟨by omega⟩
  have D := G.dom (fhom p)
  have wbd := hor_bd (p := p) (by omega) W x
  have w0 : hor p W x ≠ 0 := fun e => nx ((T.zero x x0 x1).mp e)
  have hle : W.length ≤ Fd.length := by rw [T.wl, T.fl]; omega
  refine ⟨⟨by omega, wbd.2⟩, ⟨by rw [addL_len]; exact T.fl, addL_bd (by omega) T.fb _ _ _, ?_, mulL_bd (by omega) _ _, ?_, ?_, ?_⟩⟩
  · rw [mulL_len, List.length_append, T.wl]
    show done.length + 1 + 2 - 1 = done.length + 1 + 1
    omega
  · intro q hq
    rcases List.mem_append.mp hq with h | h
    · exact T.firsts q h
    · rw [List.mem_singleton.mp h]; exact ⟨x0, x1⟩
  · intro q hq
    rw [hor_add (by omega) _ _ _ hle]
    have fbd := hor_bd (p := p) (by omega) Fd x
    rcases List.mem_append.mp hq with h | h
    · have c := T.firsts q h
      have z : hor p W q.1 = 0 := (T.zero q.1 c.1 c.2).mpr (List.mem_map.mpr ⟨q, h, rfl⟩)
      rw [z, Int.mul_zero, Int.add_zero, T.hits q h]
      have b := hor_bd (p := p) (by omega) Fd q.1
      rw [T.hits q h] at b
      exact Int.emod_eq_of_lt b.1 b.2
    · have e : q = (x, y) := List.mem_singleton.mp h
      subst e
      show (hor p Fd x + (y - hor p Fd x) * inv p (hor p W x) % (p : Int) * hor p W x) % (p : Int) = y
      refine (fhom p).eq (emod_bd (by omega) _) ⟨y0, y1⟩ ?_
      rw [(fhom p).mod, (fhom p).add, (fhom p).mul, (fhom p).mod, (fhom p).mul, (fhom p).sub]
      have i := ph_inv (fhom p) G (x := hor p W x) (by omega) wbd.2
      grind
  · intro z z0 z1
    rw [worth_mul (by omega)]
    have e : hor p W z * hor p [(-x) % (p : Int), 1] z % (p : Int) = 0 ↔ (hor p W z = 0 ∨ z = x) := by
      have bb := hor_bd (p := p) (by omega) W z
      rw [← (fhom p).ne0 (emod_bd (by omega) _), (fhom p).mod, (fhom p).mul, hor_lin]
      constructor
      · intro q
        rcases D _ _ q with r | r
        · exact .inl (((fhom p).ne0 bb).mp r)
        · right
          refine (fhom p).eq ⟨z0, z1⟩ ⟨x0, x1⟩ ?_
          grind
      · intro q
        rcases q with r | r
        · rw [r, (fhom p).zero]; grind
        · rw [r]; grind
    rw [e, T.zero z z0 z1, List.map_append, List.mem_append]
    simp
/-- there is just one row of as many numbers -/
theorem thru_uniq {p : Nat} (G : Good p) {xs : List Int} {A B : List Int} (hA : A.length = xs.length) (hB : B.length = xs.length) (rA : ∀ z ∈ A, 0 ≤ z ∧ z < (p : Int)) (rB : ∀ z ∈ B, 0 ≤ z ∧ z < (p : Int))
    (nd : xs.Nodup) (hx : ∀ x ∈ xs, 0 ≤ x ∧ x < (p : Int)) (h : ∀ x ∈ xs, hor p A x = hor p B x) : A = B := by
  have hp := G.two
  haveI : NeZero p := ⟨by omega⟩
  have e : A.map (fhom p).ph = B.map (fhom p).ph := by
    refine ev_eq (G.dom (fhom p)) (xs := xs.map (fhom p).ph) (by rw [List.length_map, List.length_map, hA]) (by rw [List.length_map, List.length_map, hB]) ?_ ?_
    · refine List.pairwise_map.mpr ?_
      refine List.Pairwise.imp_of_mem ?_ nd
      intro a b ha hb ne q
      exact ne ((fhom p).eq (hx a ha) (hx b hb) q)
    · intro z hz
      obtain ⟨x, hx', rfl⟩ := List.mem_map.mp hz
      rw [← hor_ph, ← hor_ph, h x hx']
  refine rests_ext (fhom p) (n := xs.length) hA hB rA rB fun i hi => ?_
  unfold phr
  rw [← map_getD, ← map_getD, e]
end Spm

namespace Spm
open Lean.Grind
/-! Law 11: turned rows as worths; the ring product by the plain one. -/
theorem S_split {R : Type} [CommRing R] (f : Nat → R) (n : Nat) : ∀ m, S f (n + m) = S f n + S (fun i => f (n + i)) m
  | 0 => by rw [S_zero, Nat.add_zero]; grind
  | m + 1 => by
    rw [← Nat.add_assoc, S_succ, S_split f n m, S_succ]; grind
theorem pow_inj {p : Nat} (hp : 2 ≤ p) {x : Int} {n : Nat} (o : Ord p x n) {i j : Nat} (hij : i < j) (hj : j < n) : pwm p x i ≠ pwm p x j := by
  intro e
  haveI : NeZero p := ⟨by omega⟩
  have r := o.root (fhom p) hp
  have e1 : (fhom p).ph x ^ i = (fhom p).ph x ^ j := by rw [← pwm_ph, ← pwm_ph, e]
  refine r.low (j - i) (by omega) (by omega) ?_
  have a : (fhom p).ph x ^ (n - i) * (fhom p).ph x ^ i = 1 := by rw [← pw_add, Nat.sub_add_cancel (by omega), r.one]
  have b : (fhom p).ph x ^ (n - i) * (fhom p).ph x ^ j = (fhom p).ph x ^ (j - i) := by
    rw [← pw_add, show n - i + j = n + (j - i) by omega, pw_add, r.one]; grind
  rw [← b, ← e1, a]
theorem pow_nodup {p : Nat} (hp : 2 ≤ p) {x : Int} {n : Nat} (o : Ord p x n) : ((List.range n).map (pwm p x)).Nodup := by
  refine List.pairwise_map.mpr ?_
  have h : (List.range n).Pairwise fun i j => i < j := List.pairwise_lt_range
  refine List.Pairwise.imp_of_mem ?_ h
  intro a b ha hb lt
  exact pow_inj hp o lt (List.mem_range.mp hb)
/-- the points of a turned row -/
def ptsOf (p : Nat) (x : Int) (A : List Int) (n : Nat) : List (Int × Int) := (List.range n).map fun k => (pwm p x k, hor p A (pwm p x k))
theorem ptsOf_fst (p : Nat) (x : Int) (A : List Int) (n : Nat) : (ptsOf p x A n).map (·.1) = (List.range n).map (pwm p x) := by
  unfold ptsOf
  rw [List.map_map]
  rfl
theorem ptsOf_snd (p : Nat) (x : Int) (A : List Int) : (ptsOf p x A A.length).map (·.2) = spn p x A := by
  unfold ptsOf spn
  rw [List.map_map]
  rfl
theorem thru_turned {p : Nat} (G : Good p) {x : Int} {A r : List Int} (o : Ord p x A.length) (hA : ∀ z ∈ A, 0 ≤ z ∧ z < (p : Int)) (hl : r.length = A.length) (hr : ∀ z ∈ r, 0 ≤ z ∧ z < (p : Int))
    (h : ∀ q ∈ ptsOf p x A A.length, hor p r q.1 = q.2) : r = A := by
  refine thru_uniq G (xs := (List.range A.length).map (pwm p x)) (by rw [List.length_map, List.length_range]; exact hl) (by rw [List.length_map, List.length_range]) hr hA (pow_nodup G.two o) ?_ ?_
  · intro z hz
    obtain ⟨k, _, rfl⟩ := List.mem_map.mp hz
    exact pwm_bd (by have := G.two; omega) _ _
  · intro z hz
    obtain ⟨k, hk, rfl⟩ := List.mem_map.mp hz
    exact h (pwm p x k, hor p A (pwm p x k)) (List.mem_map.mpr ⟨k, hk, rfl⟩)
theorem ring_plain {p : Nat} {A B : List Int} (hB : B.length = A.length) (hn : 0 < A.length) :
    ringL p A B = (List.range A.length).map fun k => (at0 (mulL p A B ++ [0]) k + at0 (mulL p A B ++ [0]) (k + A.length)) % (p : Int) := by
  have lM : (mulL p A B).length = A.length + A.length - 1 := by rw [mulL_len, hB]
  have ap : ∀ j, j < A.length + A.length → at0 (mulL p A B ++ [0]) j = at0 (mulL p A B) j := fun j hj => by
    by_cases c : j < (mulL p A B).length
    · refine at0_of ?_
      rw [List.getElem?_append_left c]
      exact at0_get c
    · rw [at0_out (l := mulL p A B) (by omega)]
      refine at0_of ?_
      rw [List.getElem?_append_right (by omega), show j - (mulL p A B).length = 0 by omega]
      rfl
  refine ext0 (ringL_len ..) (by rw [List.length_map, List.length_range]) fun k hk => ?_
  rw [at0_map hk, ap k (by omega), ap (k + A.length) (by omega)]
  unfold ringL foldL
  rw [at0_map hk]
  congr 1
  have e0 : S (fun m => if m % A.length = k then at0 (mulL p A B) m else 0) (mulL p A B).length = S (fun m => if m % A.length = k then at0 (mulL p A B) m else 0) (A.length + A.length) := by
    have e : A.length + A.length = (mulL p A B).length + 1 := by omega
    rw [e, S_succ, at0_out (Nat.le_refl _)]
    have z : (if (mulL p A B).length % A.length = k then (0 : Int) else 0) = 0 := by split <;> rfl
    rw [z]
    exact (int_add0 _).symm
  rw [e0, S_split]
  have e1 : S (fun m => if m % A.length = k then at0 (mulL p A B) m else 0) A.length = at0 (mulL p A B) k :=
    S_pick (fun m => at0 (mulL p A B) m) (fun m => m % A.length = k) k A.length hk fun i hi => by rw [Nat.mod_eq_of_lt hi]
  have e2 : S (fun i => if (A.length + i) % A.length = k then at0 (mulL p A B) (A.length + i) else 0) A.length = at0 (mulL p A B) (A.length + k) :=
    S_pick (fun i => at0 (mulL p A B) (A.length + i)) (fun i => (A.length + i) % A.length = k) k A.length hk fun i hi => by rw [Nat.add_mod_left, Nat.mod_eq_of_lt hi]
  rw [e1, e2, Nat.add_comm A.length k]
end Spm

namespace Spm
open Lean.Grind
/-! Law 12: long products by figures. -/
def Figs (A : List Int) : Prop := ∀ z ∈ A, 0 ≤ z ∧ z ≤ 9
/-- the sum at a place, over the whole numbers -/
def cf (A B : List Int) (k : Nat) : Int := P A.length B.length (at0 A) (at0 B) k
def cr (A B : List Int) : Nat → Int
  | 0 => 0
  | k + 1 => (cr A B k + cf A B k) / 10
def prodL (A B : List Int) : List Int := (List.range (A.length + B.length)).map fun k => (cr A B k + cf A B k) % 10
theorem prodL_len (A B : List Int) : (prodL A B).length = A.length + B.length := by
  unfold prodL
  rw [List.length_map, List.length_range]
theorem cf_comm (A B : List Int) (k : Nat) : cf B A k = cf A B k := P_comm _ _ _ _ _
theorem cr_comm (A B : List Int) : ∀ k, cr B A k = cr A B k
  | 0 => rfl
  | k + 1 => by
    show (cr B A k + cf B A k) / 10 = (cr A B k + cf A B k) / 10
    rw [cr_comm A B k, cf_comm]
theorem prodL_comm (A B : List Int) : prodL B A = prodL A B := by
  unfold prodL
  rw [Nat.add_comm]
  refine List.map_congr_left fun k _ => ?_
  rw [cr_comm, cf_comm]
/-- what a figure row tells -/
def told (A : List Int) : Int := A.foldr (fun c a => 10 * a + c) 0
theorem told_cons (c : Int) (A : List Int) : told (c :: A) = 10 * told A + c := rfl
theorem told_drop {A : List Int} {z : Int} {i : Nat} (hi : i < A.length) (h : A[A.length - 1 - i]? = some z) : told (A.drop (A.length - (i + 1))) = 10 * told (A.drop (A.length - i)) + z := by
  have e1 : A.length - (i + 1) = A.length - 1 - i := by omega
  have e2 : A.length - i = A.length - 1 - i + 1 := by omega
  rw [e1, e2]
  obtain ⟨hl, e⟩ := List.getElem?_eq_some_iff.mp h
  rw [List.drop_eq_getElem_cons hl, e, told_cons]
theorem told_bd : ∀ {A : List Int}, Figs A → 0 ≤ told A ∧ told A < 10 ^ A.length
  | [], _ => by show (0 : Int) ≤ 0 ∧ (0 : Int) < 10 ^ 0; decide
  | c :: A, h => by
    obtain ⟨a, b⟩ := told_bd (A := A) fun z hz => h z (List.mem_cons_of_mem _ hz)
    have c0 := h c (List.mem_cons_self ..)
    rw [told_cons, List.length_cons, Int.pow_succ]
    generalize told A = t at a b ⊢
    generalize (10 : Int) ^ A.length = u at b ⊢
    omega
theorem told_S : ∀ A : List Int, told A = S (fun k => at0 A k * 10 ^ k) A.length
  | [] => rfl
  | c :: A => by
    rw [told_cons, told_S A, List.length_cons, S_left, ← S_mul]
    have e : S (fun i => (10 : Int) * (at0 A i * 10 ^ i)) A.length = S (fun i => at0 (c :: A) (i + 1) * 10 ^ (i + 1)) A.length := S_congr fun i _ => by
      have e2 : at0 (c :: A) (i + 1) = at0 A i := rfl
      rw [e2, Int.pow_succ]
      generalize (10 : Int) ^ i = u
      generalize at0 A i = v
      rw [← Int.mul_assoc, Int.mul_comm 10 v, Int.mul_assoc, Int.mul_comm 10 u]
    rw [e]
    have e3 : at0 (c :: A) 0 = c := rfl
    rw [e3, Int.pow_zero]
    generalize S (fun i => at0 (c :: A) (i + 1) * 10 ^ (i + 1)) A.length = t
    show t + c = c * 1 + t
    omega
theorem S_bd {f : Nat → Int} {M : Int} : ∀ {n : Nat}, (∀ i, i < n → 0 ≤ f i ∧ f i ≤ M) → 0 ≤ S f n ∧ S f n ≤ n * M
  | 0, _ => by
    rw [S_zero]
    show (0 : Int) ≤ 0 ∧ (0 : Int) ≤ ((0 : Nat) : Int) * M
    simp
  | n + 1, h => by
    obtain ⟨a, b⟩ := S_bd (f := f) (n := n) fun i hi => h i (by omega)
    have c := h n (by omega)
    rw [S_succ]
    have e : ((n + 1 : Nat) : Int) * M = n * M + M := by
      rw [show ((n + 1 : Nat) : Int) = (n : Int) + 1 from rfl, Int.add_mul, Int.one_mul]
    rw [e]
    generalize (n : Int) * M = u at b ⊢
    generalize S f n = v at a b ⊢
    show 0 ≤ v + f n ∧ v + f n ≤ u + M
    omega
theorem cf_bd {A B : List Int} (hA : Figs A) (hB : Figs B) (k : Nat) : 0 ≤ cf A B k ∧ cf A B k ≤ A.length * 81 := by
  refine S_bd fun i hi => ?_
  have a := hA _ (List.mem_of_getElem? (at0_get hi))
  by_cases c : i ≤ k ∧ k - i < B.length
  · have e : S (fun j => if i + j = k then at0 A i * at0 B j else 0) B.length = at0 A i * at0 B (k - i) :=
      S_pick (fun j => at0 A i * at0 B j) (fun j => i + j = k) (k - i) B.length c.2 fun j _ => by omega
    rw [e]
    have b := hB _ (List.mem_of_getElem? (at0_get c.2))
    refine ⟨Int.mul_nonneg a.1 b.1, ?_⟩
    have q : at0 A i * at0 B (k - i) ≤ 9 * 9 := Int.mul_le_mul a.2 b.2 b.1 (by decide)
    exact q
  · rw [S_eq0 fun j hj => by rw [if_neg (by omega)]]
    show (0 : Int) ≤ 0 ∧ (0 : Int) ≤ 81
    decide
theorem cr_bd {A B : List Int} (hA : Figs A) (hB : Figs B) : ∀ k, 0 ≤ cr A B k
  | 0 => Int.le_refl _
  | k + 1 => by
    have a := cr_bd hA hB k
    have b := (cf_bd hA hB k).1
    show 0 ≤ (cr A B k + cf A B k) / 10
    omega
theorem carry_sum (A B : List Int) : ∀ m, S (fun k => ((cr A B k + cf A B k) % 10) * 10 ^ k) m + 10 ^ m * cr A B m = S (fun k => cf A B k * 10 ^ k) m
  | 0 => by
    rw [S_zero, S_zero]
    show (0 : Int) + 10 ^ 0 * 0 = 0
    simp
  | m + 1 => by
    have ih := carry_sum A B m
    rw [S_succ, S_succ, ← ih]
    have e : cr A B (m + 1) = (cr A B m + cf A B m) / 10 := rfl
    rw [e, Int.pow_succ]
    have d := Int.emod_add_mul_ediv (cr A B m + cf A B m) 10
    generalize S (fun k => ((cr A B k + cf A B k) % 10) * 10 ^ k) m = s
    generalize (10 : Int) ^ m = u
    generalize (cr A B m + cf A B m) / 10 = q at d ⊢
    generalize (cr A B m + cf A B m) % 10 = r at d ⊢
    generalize cr A B m = x at d ⊢
    generalize cf A B m = y at d ⊢
    have d2 : y = r + 10 * q - x := by omega
    rw [d2]
    show s + r * u + u * 10 * q = s + u * x + (r + 10 * q - x) * u
    grind
theorem prodL_told {A B : List Int} (hA : Figs A) (hB : Figs B) : told (prodL A B) = told A * told B ∧ Figs (prodL A B) := by
  have hF : Figs (prodL A B) := by
    intro z hz
    obtain ⟨k, _, rfl⟩ := List.mem_map.mp hz
    omega
  refine ⟨?_, hF⟩
  have e := carry_sum A B (A.length + B.length)
  have e1 : S (fun k => cf A B k * 10 ^ k) (A.length + B.length) = told A * told B := by
    rw [told_S A, told_S B]
    exact P_ev (fun i j hi hj => by omega) (at0 A) (at0 B) (10 : Int)
  have e2 : S (fun k => ((cr A B k + cf A B k) % 10) * 10 ^ k) (A.length + B.length) = told (prodL A B) := by
    rw [told_S, prodL_len]
    refine S_congr fun k hk => ?_
    have q : at0 (prodL A B) k = (cr A B k + cf A B k) % 10 := by
      unfold prodL
      rw [at0_map hk]
    rw [q]
  rw [e1, e2] at e
  have b := told_bd hF
  have bA := told_bd hA
  have bB := told_bd hB
  have c := cr_bd hA hB (A.length + B.length)
  have lt : told A * told B < 10 ^ (A.length + B.length) := by
    rw [Int.pow_add]
    by_cases z : told B = 0
    · rw [z, Int.mul_zero]
      exact Int.mul_pos (Int.pow_pos (by decide)) (Int.pow_pos (by decide))
    · have h1 : told A * told B < 10 ^ A.length * told B := Int.mul_lt_mul_of_pos_right bA.2 (by omega)
      have h2 : (10 : Int) ^ A.length * told B ≤ 10 ^ A.length * 10 ^ B.length := Int.mul_le_mul_of_nonneg_left (by omega) (Int.le_of_lt (Int.pow_pos (by decide)))
      omega
  have z : cr A B (A.length + B.length) = 0 := by
    by_cases y : cr A B (A.length + B.length) = 0
    · exact y
    · have h1 : (10 : Int) ^ (A.length + B.length) * 1 ≤ 10 ^ (A.length + B.length) * cr A B (A.length + B.length) := Int.mul_le_mul_of_nonneg_left (by omega) (Int.le_of_lt (Int.pow_pos (by decide)))
      have e' : told (prodL A B) + 10 ^ (A.length + B.length) * cr A B (A.length + B.length) = told A * told B := e
      generalize (10 : Int) ^ (A.length + B.length) * cr A B (A.length + B.length) = g at h1 e'
      generalize (10 : Int) ^ (A.length + B.length) = u at h1 lt
      omega
  rw [z] at e
  have e' : told (prodL A B) + 10 ^ (A.length + B.length) * 0 = told A * told B := e
  rw [Int.mul_zero, Int.add_zero] at e'
  exact e'
end Spm

namespace Spw
open PySem PySem.Spec PyProof.Rows L2 Spm
/-! What all defs share: lists of whole numbers, the field's object, tests that are known. -/
abbrev il (ns : List Int) : List V := ns.map V.int
def ff (p : Int) : List (Str × V) := putF "prime" (.int p) []
theorem ff_prime (p : Int) : (ff p).lookup ("prime" : Str) = some (.int p) := by
  unfold ff
  rw [lookup_putF, if_pos rfl]
theorem ff_no (p : Int) {m : Str} (h : ¬ m = "prime") : (ff p).lookup m = none := by
  unfold ff
  rw [lookup_putF, if_neg h]
  all_goals rfl
/-- a field by p stands at a -/
def FieldAt (C : Addr) (H : Hp) (a : Addr) (p : Int) : Prop := ∃ dx, H a = some (.ins C dx (ff p))
theorem FieldAt.same {C a : Addr} {H H' : Hp} {p : Int} (s : Same H H') (h : FieldAt C H a p) : FieldAt C H' a p := by
  obtain ⟨dx, e⟩ := h
  exact ⟨dx, s _ _ e⟩
theorem iteD {c : Prop} [Decidable c] {A B : Prop} (hc : c) (h : A) : if decide c = true then A else B := by
  rw [decide_eq_true hc, if_pos rfl]
  exact h
theorem iteDF {c : Prop} [Decidable c] {A B : Prop} (hc : ¬ c) (h : B) : if decide c = true then A else B := by
  rw [decide_eq_false hc, if_neg Bool.false_ne_true]
  exact h
theorem iteNF {c : Prop} [Decidable c] {A B : Prop} (hc : ¬ c) (h : A) : if (!decide c) = true then A else B := by
  rw [decide_eq_false hc]
  exact iteT h
theorem same_upd {H : Hp} {p : Addr} {o : HO} (h : H p = none) : Same H (upd H p o) := fun b x e => by
  rw [upd_ne (ne_of_none e h)]
  exact e
/-- a store to what is new -/
theorem _root_.L2.Same.over {H H' : Hp} {p : Addr} {o : HO} (s : Same H H') (h : H p = none) : Same H (upd H' p o) := fun b x e => by
  rw [upd_ne (ne_of_none e h)]
  exact s b x e
theorem sql {K : PySem.W.Frag} {H : Hp} {a : Addr} {xs : List V} (h : H a = some (.lst xs)) : SqL K H a xs := .inl (.inl h)
theorem sqt {K : PySem.W.Frag} {H : Hp} {a : Addr} {xs : List V} (h : H a = some (.tup xs)) : SqT K H a xs := .inl (.inl h)
/-- an item of a list of numbers -/
theorem il_at {ns : List Int} {i : Nat} {x : V} (h : (il ns)[i]? = some x) : ∃ z, ns[i]? = some z ∧ x = .int z := by
  unfold il at h
  rw [List.getElem?_map] at h
  cases e : ns[i]? with
  | none =>
    rw [e] at h
    cases h
  | some z =>
    rw [e] at h
    exact ⟨z, rfl, (Option.some.inj h).symm⟩
theorem at_il {ns : List Int} {i : Nat} {z : Int} (h : ns[i]? = some z) : (il ns)[i]? = some (.int z) := by
  unfold il
  rw [List.getElem?_map, h]
  rfl
theorem il_len {ns : List Int} : (il ns).length = ns.length := List.length_map ..
/-- what is promised: a whole number, a list of whole numbers that is new -/
def RInt (H : Hp) (Q : VK) (z : Int) : Prop := ∀ H', Same H H' → Q (.int z) H'
def RNon (H : Hp) (Q : VK) : Prop := ∀ H', Same H H' → Q .non H'
def RBl (H : Hp) (Q : VK) (b : Bool) : Prop := ∀ H', Same H H' → Q (.bl b) H'
def RLst (H : Hp) (Q : VK) (ns : List Int) : Prop := ∀ H' l, Same H H' → H l = none → H' l = some (.lst (il ns)) → Q (.ref l) H'
/-- rests by p -/
def Rests (p : Int) (ns : List Int) : Prop := ∀ x ∈ ns, 0 ≤ x ∧ x < p
theorem Rests.at_ {p : Int} {ns : List Int} (h : Rests p ns) {i : Nat} {z : Int} (e : ns[i]? = some z) : 0 ≤ z ∧ z < p := h z (List.mem_of_getElem? e)
end Spw
namespace Spw
open PySem PySem.Spec PyProof.Rows L2 Spm
/-- over a list from its end -/
theorem for_rev {K : PySem.W.Frag} {a : Addr} {xs : List V} {g : TG} {tb : TS} {D : Ends} {σ : L2.St} {H : Hp} (Pv : Nat → L2.St → Hp → Prop) (h0 : Pv 0 σ H) (hl : ∀ i σ H, i ≤ xs.length → Pv i σ H → SqL K H a xs)
    (hs : ∀ i x σ H, i < xs.length → xs[xs.length - 1 - i]? = some x → Pv i σ H → g x σ H fun σ2 H2 => tb { D with nx := Pv (i + 1), ct := Pv (i + 1), bk := D.nx } σ2 H2) (hd : ∀ σ H, Pv xs.length σ H → D.nx σ H) :
    ∃ W : Nat → Nat → L2.St → Hp → Prop, (∃ m, W 0 m σ H) ∧ ∀ i m σ H, W i m σ H →
      ((Itv K a xs.length).stop i H ∧ D.nx σ H) ∨ ((Itv K a xs.length).go i H ∧ ∃ N : L2.St → Hp → Prop, (∀ σ' H', N σ' H' → ∃ m', m' < m ∧ W (i + 1) m' σ' H') ∧ ∀ x H', (Itv K a xs.length).yld i H x H' → g x σ H' fun σ2 H2 => tb { D with nx := N, ct := N, bk := D.nx } σ2 H2) := by
  refine ⟨fun i m σ H => m = xs.length - i ∧ i ≤ xs.length ∧ Pv i σ H, ⟨xs.length, by simp, Nat.zero_le _, h0⟩, ?_⟩
  rintro i m σ H ⟨rfl, hi, p⟩
  have q := hl i σ H hi p
  by_cases hlt : i < xs.length
  · have hn : xs.length - 1 - i < xs.length := by omega
    refine .inr ⟨⟨hlt, xs, xs[xs.length - 1 - i], q, List.getElem?_eq_getElem hn⟩, Pv (i + 1), fun σ' H' p' => ⟨xs.length - (i + 1), by omega, rfl, hlt, p'⟩, fun x H' y => ?_⟩
    obtain ⟨e, y⟩ := y
    subst e
    exact hs i x σ _ hlt (y xs q) p
  · have e : i = xs.length := by omega
    subst e
    exact .inl ⟨Nat.le_refl _, hd σ H p⟩
/-- lists of whole numbers compared -/
theorem dp_il {K : PySem.W.Frag} {H : Hp} : ∀ ns : List Int, DpAll K H (il ns) (ns.map PyData.int)
  | [] => .nil
  | z :: ns => .cons (.int z) (dp_il ns)
theorem dp_ls {K : PySem.W.Frag} {H : Hp} {a : Addr} {ns : List Int} (h : SqL K H a (il ns)) : Dp K H (.ref a) (.list (ns.map PyData.int)) := .lst h (dp_il ns)
theorem eqv_all : ∀ ns ms : List Int, PyData.eqvAll (ns.map PyData.int) (ms.map PyData.int) = decide (ns = ms)
  | [], [] => by simp [PyData.eqvAll]
  | [], _ :: _ => by simp [PyData.eqvAll]
  | _ :: _, [] => by simp [PyData.eqvAll]
  | z :: ns, y :: ms => by
    have ih := eqv_all ns ms
    simp only [List.map_cons, PyData.eqvAll, PyData.eqv]
    rw [ih]
    by_cases h1 : z = y
    · subst h1; simp
    · simp [h1]
theorem eqv_il (ns ms : List Int) : PyData.eqv (.list (ns.map PyData.int)) (.list (ms.map PyData.int)) = decide (ns = ms) := by
  have e := eqv_all ns ms
  simp only [PyData.eqv]
  exact e
theorem lay_all : ∀ ns : List Int, PyData.canLayAll0 (ns.map PyData.int) = true ∧ PyData.depthAll (ns.map PyData.int) ≤ 1
  | [] => by simp [PyData.canLayAll0, PyData.depthAll]
  | z :: ns => by
    obtain ⟨h1, h2⟩ := lay_all ns
    simp only [List.map_cons, PyData.canLayAll0, PyData.depthAll, PyData.canLay0, PyData.depth, h1, Bool.and_self, true_and]
    omega
theorem shaped_all (ns : List Int) : SeqAt.shaped (.list (ns.map PyData.int)) = true := by
  obtain ⟨h1, h2⟩ := lay_all ns
  have e1 : PyData.canLay0 (.list (ns.map PyData.int)) = true := by simp only [PyData.canLay0]; exact h1
  have e2 : PyData.depth (.list (ns.map PyData.int)) ≤ 64 := by
    simp only [PyData.depth]
    exact Nat.le_trans (Nat.add_le_add_right h2 1) (by decide)
  unfold SeqAt.shaped
  rw [e1, decide_eq_true e2]
  rfl
end Spw
namespace Spw
open PySem PySem.Spec PyProof.Rows L2 Spm
theorem line_le {n : Nat} (h : n ≤ 1000) : n ≤ sizeLine := Nat.le_of_lt (small1000 h)
theorem le1 (v : V) : [v].length ≤ sizeLine := line_le (by show 1 ≤ 1000; decide)
theorem le2 (v u : V) : [v, u].length ≤ sizeLine := line_le (by show 2 ≤ 1000; decide)
end Spw
namespace Spw
open PySem PySem.Spec PyProof.Rows L2 Spm
/-- a comprehension without a test -/
theorem lcYes {F Z : Hp → Prop} {σ : L2.St} {H : Hp} (h : F H) : tYes σ H (fun b H3 => if b = true then F H3 else Z H3) := by
  show if true = true then F H else Z H
  rw [if_pos rfl]
  exact h
end Spw
namespace Spw
open PySem PySem.Spec PyProof.Rows L2 Spm
theorem line_le' {n : Nat} (h : n ≤ 2000) : n ≤ sizeLine := Nat.le_trans h (by decide)
theorem ixN_nat' {n j : Nat} (hj : j < n) : ixN n (j : Int) = some j := by
  unfold ixN
  rw [if_pos (by omega), if_pos (by omega)]
  simp
end Spw
namespace Spw
open PySem PySem.Spec PyProof.Rows L2 Spm
/-! the rules that speak of the written part, for a block within a def -/
section
variable {X : Cx} {K : PySem.W.Frag} {e : Expr} {f : Str} {pos : Pos} {ta : TE}
theorem pe_fldK (hK : X.K = K) (he : PE X e ta) (hb : attributeBase e f X.env (eval e X.env) = eval e X.env) : PE X (.Attribute e f pos) (tFld K ta f) := by
  subst hK
  exact pe_fld he hb
theorem ix_listK (hK : X.K = K) : IxR X (rIxL K) := by
  subst hK
  exact ix_list
theorem ix_tupK (hK : X.K = K) : IxR X (rIxT K) := by
  subst hK
  exact ix_tup
theorem call_len_seqK (hK : X.K = K) : CallR X (.builtin "len") (fun xs H Q => ∃ p ys, xs = [.ref p] ∧ (SqL K H p ys ∨ SqT K H p ys) ∧ Q (.int ys.length) H) := by
  subst hK
  exact call_len_seq
end
end Spw
namespace Spw
open PySem PySem.Spec PyProof.Rows L2 Spm
/-- a field made -/
theorem made_same {H : Hp} {x dx C : Addr} {p : Int} (nx : H x = none) (nd : H dx = none) : Same H (upd (upd (upd H dx (.own x)) x (.ins C dx [])) x (.ins C dx (ff p))) := fun b o e => by
  rw [upd_ne (ne_of_none e nx), upd_ne (ne_of_none e nx), upd_ne (ne_of_none e nd)]
  exact e
end Spw
namespace Spw
open PySem PySem.Spec PyProof.Rows L2 Spm
theorem le3 (v u w : V) : [v, u, w].length ≤ sizeLine := line_le (by show 3 ≤ 1000; decide)
end Spw
namespace Spw
open PySem PySem.Spec PyProof.Rows L2 Spm
/-- [number for x in range(..)]: the numbers f 0, f 1, .. -/
theorem lc_rng {lo : Int} {n i : Nat} {te : TE} {vs : List Nat} {σ : L2.St} {H1 : Hp} {D : Addr} {Qd : Hp → Prop} (f : Nat → Int) (hn : n ≤ 1000) (nD : H1 D = none)
    (step : ∀ (j : Nat) (H2 : Hp), j < n → Same H1 H2 → ∀ R : VK, (∀ H4, Same H2 H4 → R (.int (f j)) H4) → te ((wipe σ vs).set i (some (.int (lo + j)))) H2 R)
    (hd : ∀ H', Same H1 H' → H' D = some (.lst (il ((List.range n).map f))) → Qd H')
    (hw : ∀ x : V, wipe ((wipe σ vs).set i (some x)) vs = wipe σ vs := by intro _; rfl) :
    ∃ W : Nat → Nat → Hp → Prop, (∃ m, W 0 m (upd H1 D (.lst []))) ∧ ∀ i' m H, W i' m H →
      ((Itr lo n).stop i' H ∧ Qd H) ∨ ((Itr lo n).go i' H ∧ ∃ Nx : Hp → Prop, (∀ H', Nx H' → ∃ m', m' < m ∧ W (i' + 1) m' H') ∧ ∀ x H', (Itr lo n).yld i' H x H' → gName i x (wipe σ vs) H' fun σ2 H2 => wipe σ2 vs = wipe σ vs ∧ tYes σ2 H2 fun b H3 =>
        if b = true then te σ2 H3 fun y H4 => ∃ acc, H4 D = some (.lst acc) ∧ acc.length < sizeLine ∧ Nx (upd H4 D (.lst (acc ++ [y]))) else Nx H3) := by
  refine lc_range (lo := lo) (n := n) (fun i' H' => Same H1 H' ∧ H' D = some (.lst (il ((List.range i').map f)))) ⟨same_upd nD, upd_same⟩ ?_ ?_
  · rintro j H2 hj ⟨s2, hD⟩
    refine ⟨hw _, lcYes ?_⟩
    refine step j H2 hj s2 _ fun H4 s4 => ?_
    refine ⟨_, s4 _ _ hD, ?_, (s2.trans s4).over nD, ?_⟩
    · rw [il_len, List.length_map, List.length_range]
      exact small1000 (by omega)
    · rw [upd_same, List.range_succ]
      unfold il
      rw [List.map_append, List.map_append]
      rfl
  · rintro H' ⟨s, hD⟩
    exact hd H' s hD
end Spw
namespace Spw
open PySem PySem.Spec PyProof.Rows L2 Spm
theorem sIx_neg (n d : Nat) : HT.sIx n d (some (-1)) = n - 1 := by
  show (if (-1 : Int) < 0 then ((-1 : Int) + (n : Int)).toNat else min (-1 : Int).toNat n) = n - 1
  rw [if_pos (by decide)]
  omega
theorem cut_last (A : List Int) : cutV (il A) (some (-1)) none = il (A.drop (A.length - 1)) := by
  unfold cutV
  rw [sIx_neg, HT.sIx_none, il_len]
  unfold il
  rw [← List.map_drop, ← List.map_take, List.take_of_length_le (by rw [List.length_drop]; omega)]
theorem cut_init (A : List Int) : cutV (il A) none (some (-1)) = il (A.take (A.length - 1)) := by
  unfold cutV
  rw [sIx_neg, HT.sIx_none, il_len, Nat.sub_zero, List.drop_zero]
  unfold il
  rw [← List.map_take]
theorem rep_il (z : Int) : ∀ n : Nat, (List.replicate n [V.int z]).flatten = il (List.replicate n z)
  | 0 => rfl
  | n + 1 => by
    rw [List.replicate_succ, List.flatten_cons, rep_il z n, List.replicate_succ]
    rfl
end Spw
namespace Spw
open PySem PySem.Spec PyProof.Rows L2 Spm
/-- two ways that go on alike -/
theorem share {X : Prop} {G : Nat → Hp → Prop} (Pre : Nat → Hp → Prop) (a : (∀ n H2, Pre n H2 → G n H2) → X) (b : ∀ n H2, Pre n H2 → G n H2) : X := a b
end Spw
namespace Spw
open PySem PySem.Spec PyProof.Rows L2 Spm
/-- a list of two lists of whole numbers -/
def two (A B : List Int) : PyData := .list [.list (A.map PyData.int), .list (B.map PyData.int)]
theorem dp_two {K : PySem.W.Frag} {H : Hp} {a l m : Addr} {A B : List Int} (h : SqL K H a [.ref l, .ref m]) (hl : SqL K H l (il A)) (hm : SqL K H m (il B)) : Dp K H (.ref a) (two A B) :=
  .lst h (.cons (dp_ls hl) (.cons (dp_ls hm) .nil))
theorem lay_two (A B : List Int) : PyData.canLay0 (two A B) = true := by
  unfold two
  simp only [PyData.canLay0, PyData.canLayAll0, (lay_all A).1, (lay_all B).1, Bool.and_self]
theorem shaped_two (A B : List Int) : SeqAt.shaped (two A B) = true := by
  have e2 : PyData.depth (two A B) ≤ 64 := by
    unfold two
    simp only [PyData.depth, PyData.depthAll]
    have a := (lay_all A).2
    have b := (lay_all B).2
    refine Nat.le_trans (m := 3) ?_ (by decide)
    refine Nat.succ_le_succ (Nat.max_le.mpr ⟨Nat.succ_le_succ a, Nat.max_le.mpr ⟨Nat.succ_le_succ b, Nat.zero_le _⟩⟩)
  unfold SeqAt.shaped
  rw [lay_two, decide_eq_true e2]
  rfl
theorem eqv_two (A B : List Int) : PyData.eqv (two A B) (two A B) = true := by
  unfold two
  simp only [PyData.eqv, PyData.eqvAll]
  have a := eqv_all A A
  have b := eqv_all B B
  rw [decide_eq_true rfl] at a b
  simp only [a, b, Bool.and_self]
end Spw
namespace Spw
open PySem PySem.Spec PyProof.Rows L2 Spm
/-- a list at l of pairs of whole numbers, the pairs' tuples at as -/
structure PtsAt (K : PySem.W.Frag) (H : Hp) (l : Addr) (as : List Addr) (pts : List (Int × Int)) : Prop where
  lst : SqL K H l (as.map V.ref)
  len : as.length = pts.length
  at_ : ∀ (i : Nat) (t : Addr), as[i]? = some t → ∃ q, pts[i]? = some q ∧ SqT K H t [.int q.1, .int q.2]
theorem Same.sqt' {K : PySem.W.Frag} {H H' : Hp} {a : Addr} {xs : List V} (e : Same H H') (h : SqT K H a xs) : SqT K H' a xs := by
  rcases h with (h | ⟨o, h⟩) | h
  · exact .inl (.inl (e _ _ h))
  · exact .inl (.inr ⟨o, e _ _ h⟩)
  · exact .inr h
theorem PtsAt.same {K : PySem.W.Frag} {H H' : Hp} {l : Addr} {as : List Addr} {pts : List (Int × Int)} (s : Same H H') (P : PtsAt K H l as pts) : PtsAt K H' l as pts :=
  ⟨s.seq P.lst, P.len, fun i t h => by
    obtain ⟨q, a, b⟩ := P.at_ i t h
    exact ⟨q, a, Same.sqt' s b⟩⟩
theorem ref_at {as : List Addr} {i : Nat} {x : V} (h : (as.map V.ref)[i]? = some x) : ∃ t, as[i]? = some t ∧ x = .ref t := by
  rw [List.getElem?_map] at h
  cases e : as[i]? with
  | none =>
    rw [e] at h
    cases h
  | some t =>
    rw [e] at h
    exact ⟨t, rfl, (Option.some.inj h).symm⟩
end Spw
namespace Spw
open PySem PySem.Spec PyProof.Rows L2 Spm
/-- the same, each tracked -/
structure PtsT (H : Hp) (l : Addr) (as : List Addr) (pts : List (Int × Int)) : Prop where
  lst : H l = some (.lst (as.map V.ref))
  len : as.length = pts.length
  at_ : ∀ (i : Nat) (t : Addr), as[i]? = some t → ∃ q, pts[i]? = some q ∧ H t = some (.tup [.int q.1, .int q.2])
theorem PtsT.at {K : PySem.W.Frag} {H : Hp} {l : Addr} {as : List Addr} {pts : List (Int × Int)} (P : PtsT H l as pts) : PtsAt K H l as pts :=
  ⟨sql P.lst, P.len, fun i t h => by
    obtain ⟨q, a, b⟩ := P.at_ i t h
    exact ⟨q, a, sqt b⟩⟩
theorem PtsT.same {H H' : Hp} {l : Addr} {as : List Addr} {pts : List (Int × Int)} (s : Same H H') (P : PtsT H l as pts) : PtsT H' l as pts :=
  ⟨s _ _ P.lst, P.len, fun i t h => by
    obtain ⟨q, a, b⟩ := P.at_ i t h
    exact ⟨q, a, s _ _ b⟩⟩
theorem PtsT.nil {H : Hp} {l : Addr} (h : H l = some (.lst [])) : PtsT H l [] [] := ⟨h, rfl, fun i t h => by simp at h⟩
/-- one pair more -/
theorem PtsT.push {H : Hp} {l t : Addr} {as : List Addr} {pts : List (Int × Int)} {x y : Int} (P : PtsT H l as pts) (ht : H t = some (.tup [.int x, .int y])) :
    PtsT (upd H l (.lst (as.map V.ref ++ [.ref t]))) l (as ++ [t]) (pts ++ [(x, y)]) := by
  have tl : ∀ u xs, H u = some (.tup xs) → u ≠ l := fun u xs h => ne_of h P.lst (by intro z; cases z)
  refine ⟨by rw [upd_same, List.map_append]; rfl, by rw [List.length_append, List.length_append, P.len]; rfl, fun i u h => ?_⟩
  by_cases c : i < as.length
  · rw [List.getElem?_append_left c] at h
    obtain ⟨q, a, b⟩ := P.at_ i u h
    exact ⟨q, by rw [List.getElem?_append_left (by rw [← P.len]; exact c)]; exact a, by rw [upd_ne (tl _ _ b)]; exact b⟩
  · rw [List.getElem?_append_right (by omega)] at h
    have e : i - as.length = 0 := by
      by_cases z : i - as.length = 0
      · exact z
      · rw [List.getElem?_eq_none (by show 1 ≤ _; omega)] at h
        cases h
    rw [e] at h
    have e2 : t = u := Option.some.inj h
    subst e2
    refine ⟨(x, y), ?_, by rw [upd_ne (tl _ _ ht)]; exact ht⟩
    rw [List.getElem?_append_right (by rw [← P.len]; omega), ← P.len, e]
    rfl
end Spw
namespace Spw
open PySem PySem.Spec PyProof.Rows L2 Spm
/-- two ways that go on alike, with two addresses -/
theorem share3 {X : Prop} {G : Addr → Addr → Hp → Prop} (Pre : Addr → Addr → Hp → Prop) (a : (∀ l m H2, Pre l m H2 → G l m H2) → X) (b : ∀ l m H2, Pre l m H2 → G l m H2) : X := a b
end Spw

namespace Spw
open PySem PySem.Spec PyProof.Rows L2 Spm
def top (i : Nat) : Stmt := PySem.Challenge.pw_spinsum_k12_whole_long_products.main.body.getD i (.Pass ⟨0, 0, 0, 0⟩)
abbrev s_l_cell_at : Stmt := top 12
abbrev N_l_cell_at : List Str := ["script", "k"]
theorem sc_l_cell_at : FnScope N_l_cell_at ["script", "k"] (defScope s_l_cell_at) := ⟨rfl, rfl, rfl, by decide +kernel, rfl, by decide +kernel, by decide +kernel⟩
abbrev s_l_figures : Stmt := top 15
abbrev N_l_figures : List Str := ["script", "at", "most", "size", "found", "k", "cell"]
theorem sc_l_figures : FnScope N_l_figures ["script", "at", "most"] (defScope s_l_figures) := ⟨rfl, rfl, rfl, by decide +kernel, rfl, by decide +kernel, by decide +kernel⟩
abbrev s_l_whole : Stmt := top 13
abbrev N_l_whole : List Str := ["found"]
theorem sc_l_whole : FnScope N_l_whole ["found"] (defScope s_l_whole) := ⟨rfl, rfl, rfl, by decide +kernel, rfl, by decide +kernel, by decide +kernel⟩
abbrev s_l_numbers : Stmt := top 14
abbrev N_l_numbers : List Str := ["found", "due", "x"]
theorem sc_l_numbers : FnScope N_l_numbers ["found", "due"] (defScope s_l_numbers) := ⟨rfl, rfl, rfl, by decide +kernel, rfl, by decide +kernel, by decide +kernel⟩
abbrev s_l_told : Stmt := top 16
abbrev N_l_told : List Str := ["figures", "found", "figure"]
theorem sc_l_told : FnScope N_l_told ["figures"] (defScope s_l_told) := ⟨rfl, rfl, rfl, by decide +kernel, rfl, by decide +kernel, by decide +kernel⟩
abbrev s_ask_figures : Stmt := top 8
abbrev N_ask_figures : List Str := ["some", "one"]
theorem sc_ask_figures : FnScope N_ask_figures ["some"] (defScope s_ask_figures) := ⟨rfl, rfl, rfl, by decide +kernel, rfl, by decide +kernel, by decide +kernel⟩
abbrev s_joined : Stmt := top 9
abbrev N_joined : List Str := ["rests", "found", "whole", "k"]
theorem sc_joined : FnScope N_joined ["rests"] (defScope s_joined) := ⟨rfl, rfl, rfl, by decide +kernel, rfl, by decide +kernel, by decide +kernel⟩
abbrev s_multiplied : Stmt := top 5
abbrev N_multiplied : List Str := ["prime", "one", "other", "found", "i", "j"]
theorem sc_multiplied : FnScope N_multiplied ["prime", "one", "other"] (defScope s_multiplied) := ⟨rfl, rfl, rfl, by decide +kernel, rfl, by decide +kernel, by decide +kernel⟩
abbrev s_long_product : Stmt := top 10
abbrev N_long_product : List Str := ["one", "other", "some", "figure", "rows", "found", "carry", "k", "here", "prime", "row"]
theorem sc_long_product : FnScope N_long_product ["one", "other"] (defScope s_long_product) := ⟨rfl, rfl, rfl, by decide +kernel, rfl, by decide +kernel, by decide +kernel⟩
abbrev s_law : Stmt := top 17
abbrev N_law : List Str := ["script", "one", "other", "handed", "found", "figure", "kept"]
theorem sc_law : FnScope N_law ["script"] (defScope s_law) := ⟨rfl, rfl, rfl, by decide +kernel, rfl, by decide +kernel, by decide +kernel⟩
structure Env (K : PySem.W.Frag) (mg : Str → Option Value) where
  C : Addr
  f_l_cell_at : Addr
  d_l_cell_at : FuncData
  F_l_cell_at : Fun K "_law_cell_at" "_law_cell_at" s_l_cell_at f_l_cell_at d_l_cell_at
  b_l_cell_at : Binds K d_l_cell_at ["script", "k"] []
  g_l_cell_at : mg "_law_cell_at" = some (.ref f_l_cell_at)
  f_l_figures : Addr
  d_l_figures : FuncData
  F_l_figures : Fun K "_law_figures" "_law_figures" s_l_figures f_l_figures d_l_figures
  b_l_figures : Binds K d_l_figures ["script", "at", "most"] []
  g_l_figures : mg "_law_figures" = some (.ref f_l_figures)
  f_l_whole : Addr
  d_l_whole : FuncData
  F_l_whole : Fun K "_law_whole" "_law_whole" s_l_whole f_l_whole d_l_whole
  b_l_whole : Binds K d_l_whole ["found"] []
  g_l_whole : mg "_law_whole" = some (.ref f_l_whole)
  f_l_numbers : Addr
  d_l_numbers : FuncData
  F_l_numbers : Fun K "_law_numbers" "_law_numbers" s_l_numbers f_l_numbers d_l_numbers
  b_l_numbers : Binds K d_l_numbers ["found", "due"] []
  g_l_numbers : mg "_law_numbers" = some (.ref f_l_numbers)
  f_l_told : Addr
  d_l_told : FuncData
  F_l_told : Fun K "_law_told" "_law_told" s_l_told f_l_told d_l_told
  b_l_told : Binds K d_l_told ["figures"] []
  g_l_told : mg "_law_told" = some (.ref f_l_told)
  f_ask_figures : Addr
  d_ask_figures : FuncData
  F_ask_figures : Fun K "ask_figures" "ask_figures" s_ask_figures f_ask_figures d_ask_figures
  b_ask_figures : Binds K d_ask_figures ["some"] []
  g_ask_figures : mg "ask_figures" = some (.ref f_ask_figures)
  f_joined : Addr
  d_joined : FuncData
  F_joined : Fun K "joined" "joined" s_joined f_joined d_joined
  b_joined : Binds K d_joined ["rests"] []
  g_joined : mg "joined" = some (.ref f_joined)
  f_multiplied : Addr
  d_multiplied : FuncData
  F_multiplied : Fun K "multiplied" "multiplied" s_multiplied f_multiplied d_multiplied
  b_multiplied : Binds K d_multiplied ["prime", "one", "other"] []
  g_multiplied : mg "multiplied" = some (.ref f_multiplied)
  f_long_product : Addr
  d_long_product : FuncData
  F_long_product : Fun K "long_product" "long_product" s_long_product f_long_product d_long_product
  b_long_product : Binds K d_long_product ["one", "other"] []
  g_long_product : mg "long_product" = some (.ref f_long_product)
  f_law : Addr
  d_law : FuncData
  F_law : Fun K "law" "law" s_law f_law d_law
  b_law : Binds K d_law ["script"] []
  g_law : mg "law" = some (.ref f_law)
  n_bool : mg "bool" = none
  n_int : mg "int" = none
  n_isinstance : mg "isinstance" = none
  n_len : mg "len" = none
  n_list : mg "list" = none
  n_range : mg "range" = none
  n_reversed : mg "reversed" = none
  P_PRIMES : Addr
  g_PRIMES : mg "PRIMES" = some (.ref P_PRIMES)
  q_PRIMES : ∀ H : Hp, SqL K H P_PRIMES (il [193, 257, 449])
end Spw

namespace Spw
open PySem PySem.Spec PyProof.Rows L2 Spm
section
variable {P : Program} {w : World} {K : PySem.W.Frag} {mg : Str → Option Value} {base : Heap}
/-- _law_cell_at -/
def sp_l_cell_at (K : PySem.W.Frag) (C : Addr) : Sp := fun vs H Q _ => ∃ (a : Addr) (ns : List Int) (k : Nat), vs = [.ref a, .int k] ∧ SqL K H a (il ns) ∧ Q (.int (at0 ns k)) H
theorem ok_l_cell_at (T : Env K mg) : FnOk P w K mg base CX0 1 T.f_l_cell_at T.d_l_cell_at ["script", "k"] (sp_l_cell_at K T.C) := by
  refine T.F_l_cell_at.ok sc_l_cell_at (fun vs H Q E h => ?_) (fun cdv A outer s H vs Q E hr h => ?_)
  · obtain ⟨a, ns, k, rfl, _⟩ := h
    rfl
  · obtain ⟨a, ns, k, rfl, hS, q⟩ := h
    refine ⟨_, (pss_cons (ps_if (pt_cmpR op_lt (pv 1) (pe_callB call_len_seq (by rfl) T.n_len PySem.boot_len (pa_cons (pv 0) pa_nil)) (nomark _)) (pss_one (ps_ret (pe_ix ix_list (pv 0) (pv 1) (fun _ _ => rfl)))) pss_nil)
      (pss_one (ps_ret pe_int))), ?_⟩
    refine ⟨_, rfl, _, rfl, a, _, rfl, .inl hS, _, _, rfl, rfl, _, rfl, ?_⟩
    rw [il_len]
    by_cases c : k < ns.length
    · refine iteD (by omega) ⟨_, rfl, _, rfl, a, _, _, _, rfl, rfl, hS, atI_nat (at_il (at0_get c)), ?_⟩
      exact q
    · refine iteDF (by omega) ?_
      have e : at0 ns k = 0 := by
        unfold at0
        rw [List.getD_eq_getElem?_getD, List.getElem?_eq_none (by omega)]
        rfl
      rw [e] at q
      exact q
end
end Spw

namespace Spw
open PySem PySem.Spec PyProof.Rows L2 Spm
section
variable {P : Program} {w : World} {K : PySem.W.Frag} {mg : Str → Option Value} {base : Heap}
/-- _law_figures: some figure row -/
def sp_l_figures (K : PySem.W.Frag) (C : Addr) : Sp := fun vs H Q _ => ∃ (a : Addr) (ns : List Int) (start : Nat), vs = [.ref a, .int start, .int 64] ∧ SqL K H a (il ns) ∧
  ∀ (A : List Int) (H' : Hp) (l : Addr), 0 < A.length → A.length ≤ 64 → Figs A → Same H H' → H l = none → H' l = some (.lst (il A)) → Q (.ref l) H'
theorem ok_l_figures (T : Env K mg) : FnOk P w K mg base CX0 2 T.f_l_figures T.d_l_figures ["script", "at", "most"] (sp_l_figures K T.C) := by
  refine T.F_l_figures.ok sc_l_figures (fun vs H Q E h => ?_) (fun cdv A outer s H vs Q E hr h => ?_)
  · obtain ⟨a, ns, start, rfl, _⟩ := h
    rfl
  · obtain ⟨a, ns, start, rfl, hS, q⟩ := h
    refine ⟨_, (pss_cons (ps_set (i := 3) sc_l_figures.nd rfl (Or.inl rfl) (pe_op op_add pe_int (pe_op op_mod (pe_call (ok_l_cell_at T) (hr.mono (by decide)) (by rfl) T.g_l_cell_at T.F_l_cell_at.kp T.b_l_cell_at .nil pass0 (pa_cons (pv 0) (pa_cons (pv 1) pa_nil))) pe_int)))
      (pss_cons (ps_if (pt_cmpR op_eq (pe_op op_mod (pe_op op_fdiv (pe_call (ok_l_cell_at T) (hr.mono (by decide)) (by rfl) T.g_l_cell_at T.F_l_cell_at.kp T.b_l_cell_at .nil pass0 (pa_cons (pv 0) (pa_cons (pv 1) pa_nil))) pe_int) pe_int) pe_int (nomark _)) (pss_one (ps_set (i := 3) sc_l_figures.nd rfl (Or.inl rfl) (pe_op op_add pe_int (pe_op op_mod (pe_op op_fdiv (pe_call (ok_l_cell_at T) (hr.mono (by decide)) (by rfl) T.g_l_cell_at T.F_l_cell_at.kp T.b_l_cell_at .nil pass0 (pa_cons (pv 0) (pa_cons (pv 1) pa_nil))) pe_int) (pv 2))))) pss_nil)
      (pss_cons (ps_set (i := 4) sc_l_figures.nd rfl (Or.inl rfl) (pe_lst pa_nil))
      (pss_cons (ps_for PassesOwn.never rfl (pi_range1 (by rfl) T.n_range (pa_cons (pv 3) pa_nil)) (pg_name (i := 5) sc_l_figures.nd rfl (Or.inl rfl)) (pss_cons (ps_set (i := 6) sc_l_figures.nd rfl (Or.inl rfl) (pe_op op_add (pe_call (ok_l_cell_at T) (hr.mono (by decide)) (by rfl) T.g_l_cell_at T.F_l_cell_at.kp T.b_l_cell_at .nil pass0 (pa_cons (pv 0) (pa_cons (pe_op op_add (pe_op op_add (pv 1) pe_int) (pe_op op_mod (pv 5) pe_int)) pa_nil))) (pe_op op_fdiv (pv 5) pe_int)))
      (pss_one (ps_expr (pe_bm PySem.F.plainAttrs_list PySem.F.slot_list_append PySem.F.type_list_append mt_append (pv 4) (pa_cons (pe_ix ix_list (pe_lst (pa_cons (pe_op op_mod (pv 6) pe_int) (pa_cons pe_int (pa_cons pe_int (pa_cons (pe_op op_mod (pe_op op_fdiv (pv 6) pe_int) pe_int) pa_nil))))) (pe_op op_mod (pe_op op_fdiv (pv 6) pe_int) pe_int) (fun _ _ => rfl)) pa_nil))))))
      (pss_one (ps_ret (pv 4))))))), ?_⟩
    refine ⟨_, rfl, _, rfl, a, ns, start, rfl, hS, _, _, rfl, rfl, (by decide : (0 : Int) < 24), _, _, rfl, rfl, ?_⟩
    refine ⟨_, rfl, _, rfl, a, ns, start, rfl, hS, _, _, rfl, rfl, ⟨by decide, by decide⟩, _, _, rfl, rfl, (by decide : (0 : Int) < 4), rfl, _, rfl, ite2 (fun _ => ?great) (fun _ => ?small)⟩
    case small =>
        have b0 : 1 ≤ (1 + at0 ns start % 24) := by omega
        have b1 : (1 + at0 ns start % 24) ≤ 64 := by omega
        refine ⟨Nat.zero_le _, fun o no => ?_⟩
        refine ⟨_, rfl, _, rfl, by omega, by omega, ?_⟩
        refine for_range (lo := 0) (n := (1 + at0 ns start % 24).toNat) (fun i σ H' => ∃ (A : List Int) (v5 v6 : Option V), σ = [some (.ref a), some (.int start), some (.int 64), some (.int (1 + at0 ns start % 24)), some (.ref o), v5, v6] ∧ Same H H' ∧ H' o = some (.lst (il A)) ∧ A.length = i ∧ Figs A)
          ⟨[], none, none, rfl, same_upd no, upd_same, rfl, fun z hz => absurd hz (List.not_mem_nil)⟩ ?_ ?_
        · rintro i σ H' hi ⟨A, v5, v6, rfl, s1, hO, la, fA⟩
          have m0 : 0 ≤ ((0 : Int) + i) % 28 := by omega
          have ek : (start : Int) + 1 + ((0 : Int) + i) % 28 = ((start + 1 + (((0 : Int) + i) % 28).toNat : Nat) : Int) := by omega
          refine ⟨_, rfl, _, rfl, _, _, rfl, rfl, _, rfl, _, _, rfl, rfl, (by decide : (0 : Int) < 28), _, _, rfl, rfl, a, ns, start + 1 + (((0 : Int) + i) % 28).toNat, ?_, s1.seq hS, ?_⟩
          · show [V.ref a, V.int ((start : Int) + 1 + ((0 : Int) + i) % 28)] = _
            rw [ek]
          refine ⟨_, rfl, _, _, rfl, rfl, ⟨by decide, by decide⟩, _, _, rfl, rfl, ?_⟩
          refine ⟨_, rfl, .inl ⟨rfl, _, sql hO⟩, _, rfl, _, _, rfl, rfl, (by decide : (0 : Int) < 10), _, rfl, _, _, rfl, rfl, ⟨by decide, by decide⟩, _, _, rfl, rfl, (by decide : (0 : Int) < 10), line_le (by show 4 ≤ 1000; decide), fun c nc => ?_⟩
          have oc : o ≠ c := ne_of_none hO nc
          obtain ⟨x, hx⟩ : ∃ x : Int, x = at0 ns (start + 1 + (((0 : Int) + i) % 28).toNat) + ((0 : Int) + i) / 28 := ⟨_, rfl⟩
          have hb : ∀ j, j < 4 → ∃ z : Int, (il [x % 10, 9, 0, x / 10 % 10])[j]? = some (.int z) ∧ 0 ≤ z ∧ z ≤ 9 := fun j hj => by
            match j, hj with
            | 0, _ => exact ⟨_, rfl, by omega, by omega⟩
            | 1, _ => exact ⟨_, rfl, by omega, by omega⟩
            | 2, _ => exact ⟨_, rfl, by omega, by omega⟩
            | 3, _ => exact ⟨_, rfl, by omega, by omega⟩
          have j0 : 0 ≤ x / 100 % 4 := by omega
          have j1 : x / 100 % 4 < 4 := by omega
          obtain ⟨z, hz, z0, z1⟩ := hb (x / 100 % 4).toNat (by omega)
          have jx : x / 100 % 4 = ((x / 100 % 4).toNat : Int) := by omega
          subst hx
          refine ⟨_, rfl, _, _, rfl, rfl, ⟨by decide, by decide⟩, _, _, rfl, rfl, (by decide : (0 : Int) < 4), c, _, _, _, rfl, rfl, sql upd_same, at_of jx hz, ?_⟩
          refine ⟨o, _, _, rfl, rfl, by rw [upd_ne oc]; exact hO, ?_, ?_⟩
          · rw [il_len]
            exact small1000 (by omega)
          · refine ⟨A ++ [z], _, _, rfl, (s1.trans (same_upd nc)).over no, ?_, ?_, ?_⟩
            · rw [upd_same]
              unfold il
              rw [List.map_append]
              rfl
            · rw [List.length_append, la]
              rfl
            · intro w hw
              rcases List.mem_append.mp hw with h | h
              · exact fA w h
              · rw [List.mem_singleton.mp h]
                exact ⟨z0, z1⟩
        · rintro σ H' ⟨A, v5, v6, rfl, s1, hO, la, fA⟩
          exact ⟨_, rfl, q A _ _ (by omega) (by omega) fA s1 no hO⟩
    case great =>
        refine ⟨_, rfl, _, rfl, a, ns, start, rfl, hS, _, _, rfl, rfl, ⟨by decide, by decide⟩, _, rfl, _, _, rfl, rfl, (by decide : (0 : Int) < 64), _, _, rfl, rfl, ?_⟩
        have b0 : 1 ≤ (1 + at0 ns start / 96 % 64) := by omega
        have b1 : (1 + at0 ns start / 96 % 64) ≤ 64 := by omega
        refine ⟨Nat.zero_le _, fun o no => ?_⟩
        refine ⟨_, rfl, _, rfl, by omega, by omega, ?_⟩
        refine for_range (lo := 0) (n := (1 + at0 ns start / 96 % 64).toNat) (fun i σ H' => ∃ (A : List Int) (v5 v6 : Option V), σ = [some (.ref a), some (.int start), some (.int 64), some (.int (1 + at0 ns start / 96 % 64)), some (.ref o), v5, v6] ∧ Same H H' ∧ H' o = some (.lst (il A)) ∧ A.length = i ∧ Figs A)
          ⟨[], none, none, rfl, same_upd no, upd_same, rfl, fun z hz => absurd hz (List.not_mem_nil)⟩ ?_ ?_
        · rintro i σ H' hi ⟨A, v5, v6, rfl, s1, hO, la, fA⟩
          have m0 : 0 ≤ ((0 : Int) + i) % 28 := by omega
          have ek : (start : Int) + 1 + ((0 : Int) + i) % 28 = ((start + 1 + (((0 : Int) + i) % 28).toNat : Nat) : Int) := by omega
          refine ⟨_, rfl, _, rfl, _, _, rfl, rfl, _, rfl, _, _, rfl, rfl, (by decide : (0 : Int) < 28), _, _, rfl, rfl, a, ns, start + 1 + (((0 : Int) + i) % 28).toNat, ?_, s1.seq hS, ?_⟩
          · show [V.ref a, V.int ((start : Int) + 1 + ((0 : Int) + i) % 28)] = _
            rw [ek]
          refine ⟨_, rfl, _, _, rfl, rfl, ⟨by decide, by decide⟩, _, _, rfl, rfl, ?_⟩
          refine ⟨_, rfl, .inl ⟨rfl, _, sql hO⟩, _, rfl, _, _, rfl, rfl, (by decide : (0 : Int) < 10), _, rfl, _, _, rfl, rfl, ⟨by decide, by decide⟩, _, _, rfl, rfl, (by decide : (0 : Int) < 10), line_le (by show 4 ≤ 1000; decide), fun c nc => ?_⟩
          have oc : o ≠ c := ne_of_none hO nc
          obtain ⟨x, hx⟩ : ∃ x : Int, x = at0 ns (start + 1 + (((0 : Int) + i) % 28).toNat) + ((0 : Int) + i) / 28 := ⟨_, rfl⟩
          have hb : ∀ j, j < 4 → ∃ z : Int, (il [x % 10, 9, 0, x / 10 % 10])[j]? = some (.int z) ∧ 0 ≤ z ∧ z ≤ 9 := fun j hj => by
            match j, hj with
            | 0, _ => exact ⟨_, rfl, by omega, by omega⟩
            | 1, _ => exact ⟨_, rfl, by omega, by omega⟩
            | 2, _ => exact ⟨_, rfl, by omega, by omega⟩
            | 3, _ => exact ⟨_, rfl, by omega, by omega⟩
          have j0 : 0 ≤ x / 100 % 4 := by omega
          have j1 : x / 100 % 4 < 4 := by omega
          obtain ⟨z, hz, z0, z1⟩ := hb (x / 100 % 4).toNat (by omega)
          have jx : x / 100 % 4 = ((x / 100 % 4).toNat : Int) := by omega
          subst hx
          refine ⟨_, rfl, _, _, rfl, rfl, ⟨by decide, by decide⟩, _, _, rfl, rfl, (by decide : (0 : Int) < 4), c, _, _, _, rfl, rfl, sql upd_same, at_of jx hz, ?_⟩
          refine ⟨o, _, _, rfl, rfl, by rw [upd_ne oc]; exact hO, ?_, ?_⟩
          · rw [il_len]
            exact small1000 (by omega)
          · refine ⟨A ++ [z], _, _, rfl, (s1.trans (same_upd nc)).over no, ?_, ?_, ?_⟩
            · rw [upd_same]
              unfold il
              rw [List.map_append]
              rfl
            · rw [List.length_append, la]
              rfl
            · intro w hw
              rcases List.mem_append.mp hw with h | h
              · exact fA w h
              · rw [List.mem_singleton.mp h]
                exact ⟨z0, z1⟩
        · rintro σ H' ⟨A, v5, v6, rfl, s1, hO, la, fA⟩
          exact ⟨_, rfl, q A _ _ (by omega) (by omega) fA s1 no hO⟩
end
end Spw

namespace Spw
open PySem PySem.Spec PyProof.Rows L2 Spm
section
variable {P : Program} {w : World} {K : PySem.W.Frag} {mg : Str → Option Value} {base : Heap}
/-- _law_whole of a whole number -/
def sp_l_whole (K : PySem.W.Frag) (C : Addr) : Sp := fun vs H Q _ => ∃ z : Int, vs = [.int z] ∧ Q (.bl true) H
theorem ok_l_whole (T : Env K mg) : FnOk P w K mg base CX0 1 T.f_l_whole T.d_l_whole ["found"] (sp_l_whole K T.C) := by
  refine T.F_l_whole.ok sc_l_whole (fun vs H Q E h => ?_) (fun cdv A outer s H vs Q E hr h => ?_)
  · obtain ⟨z, rfl, _⟩ := h
    rfl
  · obtain ⟨z, rfl, q⟩ := h
    refine ⟨_, (pss_one (ps_ret (pe_and (pe_callB call_isi (by rfl) T.n_isinstance (by decide +kernel) (pa_cons (pv 0) (pa_cons (pe_bltn (v := .ty "int") (by rfl) T.n_int (by decide +kernel) rfl) pa_nil))) (pe_one (pe_not (pe_callB call_isi (by rfl) T.n_isinstance (by decide +kernel) (pa_cons (pv 0) (pa_cons (pe_bltn (v := .ty "bool") (by rfl) T.n_bool (by decide +kernel) rfl) pa_nil)))))))), ?_⟩
    refine ⟨_, rfl, .int z, .ty "int", _, _, true, rfl, .ty "int", .base (.int z), kit_ty (by decide +kernel), true, rfl, iteT ?_⟩
    refine ⟨_, rfl, .int z, .ty "bool", _, _, false, rfl, .ty "bool", .base (.int z), kit_ty (by decide +kernel), false, rfl, ?_⟩
    exact q
end
end Spw

namespace Spw
open PySem PySem.Spec PyProof.Rows L2 Spm
section
variable {P : Program} {w : World} {K : PySem.W.Frag} {mg : Str → Option Value} {base : Heap}
/-- _law_numbers of two lists of whole numbers -/
def sp_l_numbers (K : PySem.W.Frag) (C : Addr) : Sp := fun vs H Q _ => ∃ (a b : Addr) (ns ms : List Int), vs = [.ref a, .ref b] ∧ H a = some (.lst (il ns)) ∧ SqL K H b (il ms) ∧ Q (.bl (decide (ns = ms))) H
theorem ok_l_numbers (T : Env K mg) : FnOk P w K mg base CX0 2 T.f_l_numbers T.d_l_numbers ["found", "due"] (sp_l_numbers K T.C) := by
  refine T.F_l_numbers.ok sc_l_numbers (fun vs H Q E h => ?_) (fun cdv A outer s H vs Q E hr h => ?_)
  · obtain ⟨a, b, ns, ms, rfl, _⟩ := h
    rfl
  · obtain ⟨a, b, ns, ms, rfl, hA, hB, q⟩ := h
    refine ⟨_, (pss_cons (ps_if (PW.pt (pw_or (pt_not (pt_val (pe_callB call_isi (by rfl) T.n_isinstance (by decide +kernel) (pa_cons (pv 0) (pa_cons (pe_bltn (v := .ty "list") (by rfl) T.n_list (by decide +kernel) rfl) pa_nil))))) (pw_or1 (pt_cmpR op_ne (pe_callB call_len_seq (by rfl) T.n_len PySem.boot_len (pa_cons (pv 0) pa_nil)) (pe_callB call_len_seq (by rfl) T.n_len PySem.boot_len (pa_cons (pv 1) pa_nil)) (nomark _))))) (pss_one (ps_ret pe_bl)) pss_nil)
      (pss_cons (ps_for PassesOwn.never rfl (pi_list (pv 0)) (pg_name (i := 2) sc_l_numbers.nd rfl (Or.inl rfl)) (pss_one (ps_if (pt_not (pt_val (pe_call (ok_l_whole T) (hr.mono (by decide)) (by rfl) T.g_l_whole T.F_l_whole.kp T.b_l_whole .nil pass0 (pa_cons (pv 2) pa_nil)))) (pss_one (ps_ret pe_bl)) pss_nil)))
      (pss_one (ps_ret (pe_cmpR (op_eqD hr.units) (pv 0) (pv 1) (nomark _)))))), ?_⟩
    refine ⟨_, rfl, .ref a, .ty "list", _, _, true, rfl, .ty "list", .base (.lst hA), kit_ty (by decide +kernel), true, rfl, iteF ?_⟩
    refine ⟨_, rfl, a, _, rfl, .inl (sql hA), _, rfl, b, _, rfl, .inl hB, rfl, _, rfl, ?_⟩
    rw [il_len, il_len]
    by_cases c : ns.length = ms.length
    · refine iteNS (by rw [c]) ?_
      refine ⟨_, rfl, a, rfl, ⟨_, sql hA⟩, for_list (K := K) (a := a) (xs := il ns) (fun i σ H' => ∃ v, σ = [some (.ref a), some (.ref b), v] ∧ H' = H) ⟨none, rfl, rfl⟩ (fun i σ H' _ ⟨_, _, e⟩ => by rw [e]; exact sql hA) ?_ ?_⟩
      · rintro i x σ H' hi ⟨v, rfl, rfl⟩
        obtain ⟨z, hz, rfl⟩ := il_at hi
        exact ⟨_, rfl, z, rfl, true, rfl, iteF ⟨_, rfl, rfl⟩⟩
      · rintro σ H' ⟨v, rfl, rfl⟩
        refine ⟨_, rfl, _, rfl, _, _, dp_ls (sql hA), dp_ls hB, shaped_all ns, shaped_all ms, ?_⟩
        rw [eqv_il]
        exact q
    · refine iteNF (fun z => c (by have := V.int.inj z; omega)) ?_
      have e : decide (ns = ms) = false := decide_eq_false fun z => c (by rw [z])
      rw [e] at q
      exact q
end
end Spw

namespace Spw
open PySem PySem.Spec PyProof.Rows L2 Spm
section
variable {P : Program} {w : World} {K : PySem.W.Frag} {mg : Str → Option Value} {base : Heap}
/-- _law_told -/
def sp_l_told (K : PySem.W.Frag) (C : Addr) : Sp := fun vs H Q _ => ∃ (l : Addr) (A : List Int), vs = [.ref l] ∧ SqL K H l (il A) ∧ Q (.int (told A)) H
theorem ok_l_told (T : Env K mg) : FnOk P w K mg base CX0 1 T.f_l_told T.d_l_told ["figures"] (sp_l_told K T.C) := by
  refine T.F_l_told.ok sc_l_told (fun vs H Q E h => ?_) (fun cdv A outer s H vs Q E hr h => ?_)
  · obtain ⟨l, A, rfl, _⟩ := h
    rfl
  · obtain ⟨l, A, rfl, hL, q⟩ := h
    refine ⟨_, (pss_cons (ps_set (i := 1) sc_l_told.nd rfl (Or.inl rfl) pe_int)
      (pss_cons (ps_for PassesOwn.never rfl (pi_reversed (by rfl) T.n_reversed (pa_cons (pv 0) pa_nil)) (pg_name (i := 2) sc_l_told.nd rfl (Or.inl rfl)) (pss_one (ps_set (i := 1) sc_l_told.nd rfl (Or.inl rfl) (pe_op op_add (pe_op op_mul pe_int (pv 1)) (pv 2)))))
      (pss_one (ps_ret (pv 1))))), ?_⟩
    refine ⟨_, rfl, l, il A, rfl, hL, for_rev (K := K) (a := l) (xs := il A) (fun i σ H' => ∃ v, σ = [some (.ref l), some (.int (told (A.drop (A.length - i)))), v] ∧ H' = H)
      ⟨none, by rw [Nat.sub_zero, List.drop_length]; rfl, rfl⟩ (fun i σ H' _ ⟨_, _, e⟩ => by rw [e]; exact hL) ?_ ?_⟩
    · rintro i y σ H' hi hy ⟨v, rfl, rfl⟩
      obtain ⟨z, hz, rfl⟩ := il_at hy
      rw [il_len] at hi hz
      refine ⟨_, rfl, _, _, rfl, rfl, .inl ⟨by decide, by decide⟩, _, rfl, _, _, rfl, rfl, ?_⟩
      refine ⟨some (.int z), ?_, rfl⟩
      rw [told_drop hi hz]
      rfl
    · rintro σ H' ⟨v, rfl, rfl⟩
      refine ⟨_, rfl, ?_⟩
      rw [il_len, Nat.sub_self, List.drop_zero]
      exact q
end
end Spw

namespace Spw
open PySem PySem.Spec PyProof.Rows L2 Spm
section
variable {P : Program} {w : World} {K : PySem.W.Frag} {mg : Str → Option Value} {base : Heap}
/-- ask_figures -/
def sp_ask_figures (K : PySem.W.Frag) (C : Addr) : Sp := fun vs H Q _ => ∃ (l : Addr) (A : List Int), vs = [.ref l] ∧ SqL K H l (il A) ∧ Figs A ∧ 0 < A.length ∧ Q .non H
theorem ok_ask_figures (T : Env K mg) : FnOk P w K mg base CX0 1 T.f_ask_figures T.d_ask_figures ["some"] (sp_ask_figures K T.C) := by
  refine T.F_ask_figures.ok sc_ask_figures (fun vs H Q E h => ?_) (fun cdv A outer s H vs Q E hr h => ?_)
  · obtain ⟨l, A, rfl, _⟩ := h
    rfl
  · obtain ⟨l, A, rfl, hL, hA, hn, q⟩ := h
    refine ⟨_, (pss_cons (ps_for PassesOwn.never rfl (pi_list (pv 0)) (pg_name (i := 1) sc_ask_figures.nd rfl (Or.inl rfl)) (pss_one (ps_if (pt_not (pt_chain op_le op_le pe_int (pv 1) pe_int)) (pss_one ps_never) pss_nil)))
      (pss_one (ps_if (pt_cmpR op_eq (pe_callB call_len_seq (by rfl) T.n_len PySem.boot_len (pa_cons (pv 0) pa_nil)) pe_int (nomark _)) (pss_one ps_never) pss_nil))), ?_⟩
    refine ⟨_, rfl, l, rfl, ⟨_, hL⟩, for_list (K := K) (a := l) (xs := il A) (fun i σ H' => ∃ v, σ = [some (.ref l), v] ∧ H' = H) ⟨none, rfl, rfl⟩ (fun i σ H' _ ⟨_, _, e⟩ => by rw [e]; exact hL) ?_ ?_⟩
    · rintro i x σ H' hi ⟨v, rfl, rfl⟩
      obtain ⟨z, hz, rfl⟩ := il_at hi
      obtain ⟨h1, h2⟩ := hA z (List.mem_of_getElem? hz)
      refine ⟨_, rfl, _, _, rfl, rfl, _, rfl, iteD h1 ⟨_, _, rfl, rfl, _, rfl, iteNS h2 ?_⟩⟩
      exact ⟨_, rfl, rfl⟩
    · rintro σ H' ⟨v, rfl, rfl⟩
      refine ⟨_, rfl, l, _, rfl, .inl hL, rfl, _, rfl, iteDF (fun z => ?_) ?_⟩
      · have z' := V.int.inj z
        rw [il_len] at z'
        omega
      · exact q
end
end Spw

namespace Spw
open PySem PySem.Spec PyProof.Rows L2 Spm
section
variable {P : Program} {w : World} {K : PySem.W.Frag} {mg : Str → Option Value} {base : Heap}
/-- joined: the number below 193 * 257 that leaves these rests -/
def sp_joined (K : PySem.W.Frag) (C : Addr) : Sp := fun vs H Q _ => ∃ (l : Addr) (c : Int), vs = [.ref l] ∧ 0 ≤ c ∧ c < 49601 ∧ SqL K H l (il [c % 193, c % 257, c % 449]) ∧ Q (.int c) H
theorem ok_joined (T : Env K mg) : FnOk P w K mg base CX0 1 T.f_joined T.d_joined ["rests"] (sp_joined K T.C) := by
  refine T.F_joined.ok sc_joined (fun vs H Q E h => ?_) (fun cdv A outer s H vs Q E hr h => ?_)
  · obtain ⟨l, c, rfl, _⟩ := h
    rfl
  · obtain ⟨l, c, rfl, c0, c1, hL, q⟩ := h
    refine ⟨_, (pss_cons (ps_set (i := 1) sc_joined.nd rfl (Or.inl rfl) (pe_ix ix_list (pv 0) pe_int (fun _ _ => rfl)))
      (pss_cons (ps_set (i := 2) sc_joined.nd rfl (Or.inl rfl) (pe_ix ix_list (pe_glob (v := .ref T.P_PRIMES) rfl T.g_PRIMES rfl) pe_int (fun _ _ => rfl)))
      (pss_cons (ps_for PassesOwn.never rfl (pi_range2 (by rfl) T.n_range (pa_cons pe_int (pa_cons (pe_callB call_len_seq (by rfl) T.n_len PySem.boot_len (pa_cons (pe_glob (v := .ref T.P_PRIMES) rfl T.g_PRIMES rfl) pa_nil)) pa_nil))) (pg_name (i := 3) sc_joined.nd rfl (Or.inl rfl)) (pss_cons (ps_while PassesOwn.never (pt_cmpR op_ne (pe_op op_mod (pv 1) (pe_ix ix_list (pe_glob (v := .ref T.P_PRIMES) rfl T.g_PRIMES rfl) (pv 3) (fun _ _ => rfl))) (pe_ix ix_list (pv 0) (pv 3) (fun _ _ => rfl)) (nomark _)) (pss_one (ps_set (i := 1) sc_joined.nd rfl (Or.inl rfl) (pe_op op_add (pv 1) (pv 2)))))
      (pss_one (ps_set (i := 2) sc_joined.nd rfl (Or.inl rfl) (pe_op op_mul (pv 2) (pe_ix ix_list (pe_glob (v := .ref T.P_PRIMES) rfl T.g_PRIMES rfl) (pv 3) (fun _ _ => rfl)))))))
      (pss_one (ps_ret (pv 1)))))), ?_⟩
    have hP := T.q_PRIMES H
    refine ⟨_, rfl, l, _, _, _, rfl, rfl, hL, atI_nat (j := 0) rfl, ?_⟩
    refine ⟨T.P_PRIMES, _, _, _, rfl, rfl, hP, atI_nat (j := 0) rfl, ?_⟩
    refine ⟨T.P_PRIMES, _, rfl, .inl hP, _, _, rfl, ⟨by decide, by decide, by show -(2 ^ 62) ≤ ((3 : Nat) : Int); decide, by show ((3 : Nat) : Int) < 2 ^ 62; decide⟩, ?_⟩
    refine for_range (lo := 1) (n := ((((il [193, 257, 449] : List V).length : Nat) : Int) - 1).toNat) (fun i σ H' => ∃ (f w : Int) (v3 : Option V), σ = [some (.ref l), some (.int f), some (.int w), v3] ∧ H' = H ∧
        ((i = 0 ∧ f = c % 193 ∧ w = 193) ∨ (i = 1 ∧ f = c ∧ w = 49601) ∨ (i = 2 ∧ f = c)))
      ⟨_, _, none, rfl, rfl, .inl ⟨rfl, rfl, rfl⟩⟩ ?_ ?_
    · rintro i σ H' hi ⟨f, w, v3, rfl, rfl, hs⟩
      have i2 : i < 2 := hi
      rcases hs with ⟨rfl, rfl, rfl⟩ | ⟨rfl, rfl, rfl⟩ | ⟨rfl, _⟩
      · -- by 257
        refine ⟨fun m σ H2 => ∃ f : Int, σ = [some (.ref l), some (.int f), some (.int 193), some (.int ((1 : Int) + (0 : Nat)))] ∧ H2 = H' ∧ 0 ≤ f ∧ f ≤ c ∧ f % 193 = c % 193 ∧ m = (c - f).toNat,
          ⟨_, _, rfl, rfl, by omega, by omega, by omega, rfl⟩, ?_⟩
        rintro m σ H2 ⟨f, rfl, rfl, f0, f1, f2, rfl⟩
        refine ⟨_, rfl, _, rfl, T.P_PRIMES, _, _, .int 257, rfl, rfl, hP, at_of (j := 1) rfl rfl, _, _, rfl, rfl, (by decide : (0 : Int) < 257), ?_⟩
        refine ⟨_, rfl, _, rfl, l, _, _, .int (c % 257), rfl, rfl, hL, at_of (j := 1) rfl rfl, rfl, _, rfl, ?_⟩
        by_cases e : f % 257 = c % 257
        · have fc : f = c := by omega
          subst fc
          refine iteNS rfl ?_
          refine ⟨_, rfl, _, rfl, T.P_PRIMES, _, _, .int 257, rfl, rfl, hP, at_of (j := 1) rfl rfl, _, _, rfl, rfl, .inl ⟨by decide, by decide⟩, ?_⟩
          exact ⟨_, _, _, rfl, rfl, .inr (.inl ⟨rfl, rfl, by show (193 : Int) * 257 = 49601; decide⟩)⟩
        · refine iteNF (fun z => e (V.int.inj z)) ⟨_, fun _ _ h => h, ?_⟩
          refine ⟨_, rfl, _, rfl, _, _, rfl, rfl, ?_⟩
          exact ⟨_, (by omega : (c - (f + 193)).toNat < (c - f).toNat), _, rfl, rfl, by omega, by omega, by omega, rfl⟩
      · -- by 449: at once
        refine ⟨fun m σ H2 => σ = [some (.ref l), some (.int f), some (.int 49601), some (.int ((1 : Int) + (1 : Nat)))] ∧ H2 = H', ⟨0, rfl, rfl⟩, ?_⟩
        rintro m σ H2 ⟨rfl, rfl⟩
        refine ⟨_, rfl, _, rfl, T.P_PRIMES, _, _, .int 449, rfl, rfl, hP, at_of (j := 2) rfl rfl, _, _, rfl, rfl, (by decide : (0 : Int) < 449), ?_⟩
        refine ⟨_, rfl, _, rfl, l, _, _, .int (f % 449), rfl, rfl, hL, at_of (j := 2) rfl rfl, rfl, _, rfl, ?_⟩
        refine iteNS rfl ?_
        refine ⟨_, rfl, _, rfl, T.P_PRIMES, _, _, .int 449, rfl, rfl, hP, at_of (j := 2) rfl rfl, _, _, rfl, rfl, .inl ⟨by decide, by decide⟩, ?_⟩
        exact ⟨_, _, _, rfl, rfl, .inr (.inr ⟨rfl, rfl⟩)⟩
      · omega
    · rintro σ H' ⟨f, w, v3, rfl, rfl, hs⟩
      have e : f = c := by
        rcases hs with ⟨h, _⟩ | ⟨h, _⟩ | ⟨_, h⟩
        · exact absurd h (by decide)
        · exact absurd h (by decide)
        · exact h
      subst e
      exact ⟨_, rfl, q⟩
end
end Spw

namespace Spw
open PySem PySem.Spec PyProof.Rows L2 Spm
section
variable {P : Program} {w : World} {K : PySem.W.Frag} {mg : Str → Option Value} {base : Heap}
/-- multiplied: place by place -/
def sp_multiplied (K : PySem.W.Frag) (C : Addr) : Sp := fun vs H Q _ => ∃ (a b : Addr) (p : Nat) (A B : List Int), vs = [.int p, .ref a, .ref b] ∧ 0 < p ∧ p ≤ 997 ∧ SqL K H a (il A) ∧ SqL K H b (il B) ∧ 0 < A.length ∧ A.length ≤ 1000 ∧ 0 < B.length ∧ B.length ≤ 1000 ∧
  (∀ x ∈ A, 0 ≤ x ∧ x < 1000) ∧ RLst H Q (mulL p A B)
theorem ok_multiplied (T : Env K mg) : FnOk P w K mg base CX0 1 T.f_multiplied T.d_multiplied ["prime", "one", "other"] (sp_multiplied K T.C) := by
  refine T.F_multiplied.ok sc_multiplied (fun vs H Q E h => ?_) (fun cdv A outer s H vs Q E hr h => ?_)
  · obtain ⟨a, b, p, A, B, rfl, _⟩ := h
    rfl
  · obtain ⟨a, b, p, A, B, rfl, hp, hp2, hA, hB, a0, a1, b0, b1, abd, q⟩ := h
    refine ⟨_, (pss_cons (ps_set (i := 3) sc_multiplied.nd rfl (Or.inl rfl) (pe_op op_rep (pe_lst (pa_cons pe_int pa_nil)) (pe_op op_sub (pe_op op_add (pe_callB call_len_seq (by rfl) T.n_len PySem.boot_len (pa_cons (pv 1) pa_nil)) (pe_callB call_len_seq (by rfl) T.n_len PySem.boot_len (pa_cons (pv 2) pa_nil))) pe_int)))
      (pss_cons (ps_for PassesOwn.never rfl (pi_range1 (by rfl) T.n_range (pa_cons (pe_callB call_len_seq (by rfl) T.n_len PySem.boot_len (pa_cons (pv 1) pa_nil)) pa_nil)) (pg_name (i := 4) sc_multiplied.nd rfl (Or.inl rfl)) (pss_one (ps_for PassesOwn.never rfl (pi_range1 (by rfl) T.n_range (pa_cons (pe_callB call_len_seq (by rfl) T.n_len PySem.boot_len (pa_cons (pv 2) pa_nil)) pa_nil)) (pg_name (i := 5) sc_multiplied.nd rfl (Or.inl rfl)) (pss_one (ps_asg (pe_op op_mod (pe_op op_add (pe_ix ix_list (pv 3) (pe_op op_add (pv 4) (pv 5)) (fun _ _ => rfl)) (pe_op op_mul (pe_ix ix_list (pv 1) (pv 4) (fun _ _ => rfl)) (pe_ix ix_list (pv 2) (pv 5) (fun _ _ => rfl)))) (pv 0)) (pg_sub (pv 3) (pe_op op_add (pv 4) (pv 5)) set_list))))))
      (pss_one (ps_ret (pv 3))))), ?_⟩
    have pp : (0 : Int) < (p : Int) := by omega
    have lA : (il A).length = A.length := il_len
    have lB : (il B).length = B.length := il_len
    refine ⟨le1 _, fun z nz => ?_⟩
    have sz : Same H (upd H z (.lst [.int 0])) := same_upd nz
    refine ⟨_, rfl, a, _, rfl, .inl (sz.seq hA), _, rfl, b, _, rfl, .inl (sz.seq hB), _, _, rfl, rfl, _, _, rfl, rfl, ?_⟩
    refine ⟨z, _, _, rfl, rfl, upd_same, by omega, by omega, line_le' (by show 1 * _ ≤ 2000; omega), fun o no => ?_⟩
    have so : Same H (upd (upd H z (.lst [.int 0])) o (.lst (List.replicate ((((il A).length : Nat) : Int) + (((il B).length : Nat) : Int) - 1).toNat [V.int 0]).flatten)) := sz.trans (same_upd no)
    have nO : H o = none := sz.free no
    have rep : ∀ n : Nat, (List.replicate n [V.int 0]).flatten = il (List.replicate n 0) := fun n => by
      induction n with
      | zero => rfl
      | succ n ih =>
        rw [List.replicate_succ, List.flatten_cons, ih, List.replicate_succ]
        rfl
    have en : ((((il A).length : Nat) : Int) + (((il B).length : Nat) : Int) - 1).toNat = A.length + B.length - 1 := by omega
    have eA : (((il A).length : Nat) : Int).toNat = A.length := by omega
    have eB : (((il B).length : Nat) : Int).toNat = B.length := by omega
    refine ⟨_, rfl, a, _, rfl, .inl (so.seq hA), _, rfl, by omega, by omega, ?_⟩
    rw [eA]
    refine for_range (lo := 0) (n := A.length) (fun i σ H' => ∃ y4 y5, σ = [some (.int p), some (.ref a), some (.ref b), some (.ref o), y4, y5] ∧ Same H H' ∧ H' o = some (.lst (il (partL p A B i 0))))
      ⟨none, none, rfl, so, by rw [upd_same, en, rep, partL_start]⟩ ?_ ?_
    · rintro i σ H' hi ⟨y4, y5, rfl, s1, ho⟩
      refine ⟨_, rfl, b, _, rfl, .inl (s1.seq hB), _, rfl, by omega, by omega, ?_⟩
      rw [eB]
      refine for_range (lo := 0) (n := B.length) (fun j σ H' => ∃ y5, σ = [some (.int p), some (.ref a), some (.ref b), some (.ref o), some (.int ((0 : Int) + i)), y5] ∧ Same H H' ∧ H' o = some (.lst (il (partL p A B i j))))
        ⟨y5, rfl, s1, ho⟩ ?_ ?_
      · rintro j σ H2 hj ⟨y5', rfl, s2, ho2⟩
        have hk : i + j < (partL p A B i j).length := by rw [partL_len]; omega
        have ek : ((0 : Int) + i) + ((0 : Int) + j) = ((i + j : Nat) : Int) := by omega
        have hAi := at_il (at0_get hi)
        have hBj := at_il (at0_get hj)
        have hOk := at_il (at0_get hk)
        have bA := abd (at0 A i) (List.mem_of_getElem? (at0_get hi))
        refine ⟨_, rfl, _, rfl, _, rfl, _, _, rfl, rfl, o, _, _, _, rfl, rfl, sql ho2, at_of (j := i + j) ek hOk, ?_⟩
        refine ⟨_, rfl, _, rfl, a, _, _, _, rfl, rfl, s2.seq hA, at_of (j := i) (by omega) hAi, ?_⟩
        refine ⟨_, rfl, _, rfl, b, _, _, _, rfl, rfl, s2.seq hB, at_of (j := j) (by omega) hBj, ?_⟩
        refine ⟨_, _, rfl, rfl, .inl ⟨by omega, by omega⟩, _, _, rfl, rfl, _, rfl, _, _, rfl, rfl, pp, ?_⟩
        refine ⟨_, rfl, _, rfl, _, rfl, _, _, rfl, rfl, o, _, _, i + j, rfl, rfl, ho2, ?_, ?_⟩
        · show ixN (il (partL p A B i j)).length (((0 : Int) + i) + ((0 : Int) + j)) = some (i + j)
          rw [ek, il_len]
          exact ixN_nat' hk
        · refine ⟨some (.int ((0 : Int) + j)), rfl, s2.over nO, ?_⟩
          rw [upd_same]
          show some (HO.lst ((il (partL p A B i j)).set (i + j) (V.int ((at0 (partL p A B i j) (i + j) + at0 A i * at0 B j) % (p : Int))))) = _
          unfold il
          rw [← List.map_set, partL_step p A B hi hj]
      · rintro σ H2 ⟨y5', rfl, s2, ho2⟩
        refine ⟨_, _, rfl, s2, ?_⟩
        rw [ho2, partL_row]
    · rintro σ H' ⟨y4, y5, rfl, s1, ho⟩
      rw [partL_end] at ho
      exact ⟨_, rfl, q _ _ s1 nO ho⟩
end
end Spw

namespace Spw
open PySem PySem.Spec PyProof.Rows L2 Spm
section
variable {P : Program} {w : World} {K : PySem.W.Frag} {mg : Str → Option Value} {base : Heap}
/-- long_product -/
def sp_long_product (K : PySem.W.Frag) (C : Addr) : Sp := fun vs H Q _ => ∃ (l m : Addr) (A B : List Int), vs = [.ref l, .ref m] ∧ SqL K H l (il A) ∧ SqL K H m (il B) ∧ Figs A ∧ Figs B ∧ 0 < A.length ∧ A.length ≤ 64 ∧ 0 < B.length ∧ B.length ≤ 64 ∧ RLst H Q (prodL A B)
def pr3 (i : Nat) : Nat := [193, 257, 449].getD i 0
theorem pr3_ok {i : Nat} (h : i < 3) : 0 < pr3 i ∧ pr3 i ≤ 997 ∧ ([193, 257, 449] : List Int)[i]? = some (pr3 i : Int) := by
  match i, h with
  | 0, _ => exact ⟨by decide, by decide, rfl⟩
  | 1, _ => exact ⟨by decide, by decide, rfl⟩
  | 2, _ => exact ⟨by decide, by decide, rfl⟩
theorem cf_out {A B : List Int} {k : Nat} (h : A.length + B.length - 1 ≤ k) (hA : 0 < A.length) (hB : 0 < B.length) : cf A B k = 0 := by
  unfold cf P
  refine S_eq0 fun i hi => S_eq0 fun j hj => ?_
  rw [if_neg (by omega)]
theorem ok_long_product (T : Env K mg) : FnOk P w K mg base CX0 2 T.f_long_product T.d_long_product ["one", "other"] (sp_long_product K T.C) := by
  refine T.F_long_product.ok sc_long_product (fun vs H Q E h => ?_) (fun cdv A outer s H vs Q E hr h => ?_)
  · obtain ⟨l, m, A, B, rfl, _⟩ := h
    rfl
  · obtain ⟨l, m, A, B, rfl, hA, hB, fA, fB, nA, nA2, nB, nB2, q⟩ := h
    refine ⟨_, (pss_cons (ps_for PassesOwn.never rfl (pi_tup (pe_tup (pa_cons (pv 0) (pa_cons (pv 1) pa_nil)))) (pg_name (i := 2) sc_long_product.nd rfl (Or.inl rfl)) (pss_one (ps_for PassesOwn.never rfl (pi_list (pv 2)) (pg_name (i := 3) sc_long_product.nd rfl (Or.inl rfl)) (pss_one (ps_if (pt_not (pt_chain op_le op_le pe_int (pv 3) pe_int)) (pss_one ps_never) pss_nil)))))
      (pss_cons (ps_expr (pe_call (ok_ask_figures T) (hr.mono (by decide)) (by rfl) T.g_ask_figures T.F_ask_figures.kp T.b_ask_figures .nil pass0 (pa_cons (pv 0) pa_nil)))
      (pss_cons (ps_expr (pe_call (ok_ask_figures T) (hr.mono (by decide)) (by rfl) T.g_ask_figures T.F_ask_figures.kp T.b_ask_figures .nil pass0 (pa_cons (pv 1) pa_nil)))
      (pss_cons (ps_setLc (i := 4) (own := [("prime", 9)]) (g := gName 9) (tt := tYes) rfl sc_long_product.nd rfl rfl (sw_true rfl rfl rfl (by decide +kernel)) (pi_list (pe_glob (v := .ref T.P_PRIMES) rfl T.g_PRIMES rfl)) (blkOk_by (N := N_long_product) (sc := defScope s_long_product) (by decide +kernel)) (fun _ _ _ _ _ => pg_name (i := 9) sc_long_product.nd rfl (Or.inl rfl)) (fun _ _ _ _ _ => by exact pts_nil) (fun _ _ _ _ _ => by exact (pe_call (ok_multiplied T) (hr.mono (by decide)) (by rfl) T.g_multiplied T.F_multiplied.kp T.b_multiplied .nil pass0 (pa_cons (pv 9) (pa_cons (pv 0) (pa_cons (pv 1) pa_nil))))))
      (pss_cons (ps_set (i := 5) sc_long_product.nd rfl (Or.inl rfl) (pe_lst pa_nil))
      (pss_cons (ps_set (i := 6) sc_long_product.nd rfl (Or.inl rfl) pe_int)
      (pss_cons (ps_for PassesOwn.never rfl (pi_range1 (by rfl) T.n_range (pa_cons (pe_op op_add (pe_callB call_len_seq (by rfl) T.n_len PySem.boot_len (pa_cons (pv 0) pa_nil)) (pe_callB call_len_seq (by rfl) T.n_len PySem.boot_len (pa_cons (pv 1) pa_nil))) pa_nil)) (pg_name (i := 7) sc_long_product.nd rfl (Or.inr rfl)) (pss_cons (ps_set (i := 8) sc_long_product.nd rfl (Or.inl rfl) (pv 6))
      (pss_cons (ps_if (pt_cmpR op_lt (pv 7) (pe_callB call_len_seq (by rfl) T.n_len PySem.boot_len (pa_cons (pe_ix ix_list (pv 4) pe_int (fun _ _ => rfl)) pa_nil)) (nomark _)) (pss_one (ps_set (i := 8) sc_long_product.nd rfl (Or.inl rfl) (pe_op op_add (pv 8) (pe_call (ok_joined T) (hr.mono (by decide)) (by rfl) T.g_joined T.F_joined.kp T.b_joined .nil pass0 (pa_cons (pe_lc (own := [("row", 10)]) (g := gName 10) (tt := tYes) rfl sc_long_product.nd (pi_list (pv 4)) (blkOk_by (N := N_long_product) (sc := defScope s_long_product) (by decide +kernel)) (fun _ _ _ _ _ => pg_name (i := 10) sc_long_product.nd rfl (Or.inl rfl)) (fun _ _ _ _ _ => by exact pts_nil) (fun _ _ _ _ _ => by exact (pe_ix (ix_listK (K := K) rfl) (pv 10) (pv 7) (fun _ _ => rfl)))) pa_nil))))) pss_nil)
      (pss_cons (ps_expr (pe_bm PySem.F.plainAttrs_list PySem.F.slot_list_append PySem.F.type_list_append mt_append (pv 5) (pa_cons (pe_op op_mod (pv 8) pe_int) pa_nil)))
      (pss_one (ps_set (i := 6) sc_long_product.nd rfl (Or.inl rfl) (pe_op op_fdiv (pv 8) pe_int)))))))
      (pss_one (ps_ret (pv 5)))))))))), ?_⟩
    have lA : (il A).length = A.length := il_len
    have lB : (il B).length = B.length := il_len
    -- all figures asked
    refine ⟨_, rfl, _, rfl, le2 _ _, fun t nt => ?_⟩
    have e1 := same_upd (o := .tup [.ref l, .ref m]) nt
    have hT : (upd H t (.tup [.ref l, .ref m])) t = some (.tup [.ref l, .ref m]) := upd_same
    generalize upd H t (.tup [.ref l, .ref m]) = H1 at e1 hT ⊢
    have hA1 := e1.seq hA
    have hB1 := e1.seq hB
    refine ⟨t, rfl, ⟨_, sqt hT⟩, for_tup (K := K) (a := t) (xs := [.ref l, .ref m]) (fun i σ H' => ∃ v2 v3, σ = [some (.ref l), some (.ref m), v2, v3, none, none, none, none, none, none, none] ∧ H' = H1) ⟨none, none, rfl, rfl⟩ (fun i σ H' _ ⟨_, _, _, e⟩ => by rw [e]; exact sqt hT) ?_ ?_⟩
    · rintro i x σ H' hi ⟨v2, v3, rfl, rfl⟩
      obtain ⟨r, R, rfl, hR, fR⟩ : ∃ r R, x = V.ref r ∧ SqL K H' r (il R) ∧ Figs R := by
        match i, hi with
        | 0, h => exact ⟨l, A, (Option.some.inj h).symm, hA1, fA⟩
        | 1, h => exact ⟨m, B, (Option.some.inj h).symm, hB1, fB⟩
        | i + 2, h => exact absurd h (by simp)
      refine ⟨_, rfl, r, rfl, ⟨_, hR⟩, for_list (K := K) (a := r) (xs := il R) (fun i σ H2 => ∃ v3, σ = [some (.ref l), some (.ref m), some (.ref r), v3, none, none, none, none, none, none, none] ∧ H2 = H') ⟨v3, rfl, rfl⟩ (fun i σ H' _ ⟨_, _, e⟩ => by rw [e]; exact hR) ?_ ?_⟩
      · rintro i x σ H2 hi ⟨v, rfl, rfl⟩
        obtain ⟨z, hz, rfl⟩ := il_at hi
        obtain ⟨h1, h2⟩ := fR z (List.mem_of_getElem? hz)
        refine ⟨_, rfl, _, _, rfl, rfl, _, rfl, iteD h1 ⟨_, _, rfl, rfl, _, rfl, iteNS h2 ?_⟩⟩
        exact ⟨_, rfl, rfl⟩
      · rintro σ H2 ⟨v, rfl, rfl⟩
        exact ⟨_, _, rfl, rfl⟩
    rintro σ H' ⟨v2, v3, rfl, rfl⟩
    refine ⟨_, rfl, l, A, rfl, hA1, fA, nA, ?_⟩
    refine ⟨_, rfl, m, B, rfl, hB1, fB, nB, ?_⟩
    -- rows
    have hP := T.q_PRIMES H'
    refine ⟨T.P_PRIMES, rfl, ⟨_, hP⟩, fun D nD => ?_⟩
    refine lc_list (K := K) (a := T.P_PRIMES) (xs := il [193, 257, 449]) (fun i H2 => Same H' H2 ∧ ∃ rs : List Addr, H2 D = some (.lst (rs.map V.ref)) ∧ rs.length = i ∧ ∀ j r, rs[j]? = some r → H2 r = some (.lst (il (mulL (pr3 j) A B))))
      ⟨same_upd nD, [], upd_same, rfl, fun j r h => by simp at h⟩ (fun i H2 _ _ => T.q_PRIMES H2) ?_ ?_
    · rintro i y H2 hy ⟨s2, rs, hD, lr, hrs⟩
      have i3 : i < 3 := by
        have := (List.getElem?_eq_some_iff.mp hy).1
        exact this
      obtain ⟨z, hz, rfl⟩ := il_at hy
      obtain ⟨p0, p1, p2⟩ := pr3_ok i3
      have ez : z = (pr3 i : Int) := Option.some.inj (hz.symm.trans p2)
      subst ez
      refine ⟨rfl, lcYes ?_⟩
      refine ⟨_, rfl, _, rfl, _, rfl, l, m, pr3 i, A, B, rfl, p0, p1, s2.seq hA1, s2.seq hB1, nA, by omega, nB, by omega, fun x hx => ⟨(fA x hx).1, by have := (fA x hx).2; omega⟩, fun H3 r s3 nr hR => ?_⟩
      have rD : D ≠ r := ne_of_none hD nr
      refine ⟨_, s3 _ _ hD, ?_, (s2.trans s3).over nD, rs ++ [r], ?_, ?_, ?_⟩
      · rw [List.length_map]
        exact small1000 (by omega)
      · rw [upd_same, List.map_append]
        rfl
      · rw [List.length_append, lr]
        rfl
      · intro j r' hj
        by_cases c : j < rs.length
        · rw [List.getElem?_append_left c] at hj
          have h := hrs j r' hj
          have ne : r' ≠ D := fun z => by
            rw [z, hD] at h
            have h2 := Option.some.inj h
            have h3 : (rs.map V.ref) = il (mulL (pr3 j) A B) := by
              injection h2
            have h4 := congrArg (fun q => q[0]?) h3
            have hm : 0 < (mulL (pr3 j) A B).length := by rw [mulL_len]; omega
            cases rs with
            | nil => simp at c
            | cons x rs =>
              have h5 : some (V.ref x) = (il (mulL (pr3 j) A B))[0]? := h4
              rw [at_il (at0_get hm)] at h5
              cases h5
          rw [upd_ne ne]
          exact s3 _ _ h
        · rw [List.getElem?_append_right (by omega)] at hj
          have e : j - rs.length = 0 := by
            by_cases z : j - rs.length = 0
            · exact z
            · rw [List.getElem?_eq_none (by show 1 ≤ _; omega)] at hj
              cases hj
          rw [e] at hj
          have e2 : r = r' := Option.some.inj hj
          subst e2
          have e3 : j = i := by omega
          subst e3
          rw [upd_ne (Ne.symm rD)]
          exact hR
    rintro H2 ⟨s2, rs, hD, lr, hrs⟩
    have lr3 : rs.length = 3 := lr
    obtain ⟨r0, r1, r2, rfl⟩ : ∃ r0 r1 r2, rs = [r0, r1, r2] := by
      match rs, lr3 with
      | [r0, r1, r2], _ => exact ⟨r0, r1, r2, rfl⟩
    have h0 := hrs 0 r0 rfl
    have s02 := e1.trans s2
    have nDH : H D = none := e1.free nD
    -- found, carry
    refine ⟨Nat.zero_le _, fun f nf => ?_⟩
    have ef := same_upd (o := .lst []) nf
    have sf := s02.trans ef
    have nF : H f = none := s02.free nf
    refine ⟨_, rfl, l, _, rfl, .inl (sf.seq hA), _, rfl, m, _, rfl, .inl (sf.seq hB), _, _, rfl, rfl, _, rfl, by omega, by omega, ?_⟩
    rw [show ((((il A).length : Nat) : Int) + (((il B).length : Nat) : Int)).toNat = A.length + B.length by omega]
    refine for_range (lo := 0) (n := A.length + B.length) (fun k σ H3 => ∃ v7 v8, σ = [some (.ref l), some (.ref m), v2, v3, some (.ref D), some (.ref f), some (.int (cr A B k)), v7, v8, none, none] ∧ Same H2 H3 ∧ H3 f = some (.lst (il ((prodL A B).take k))))
      ⟨none, none, rfl, ef, upd_same⟩ ?_ ?_
    · rintro k σ H3 hk ⟨v7, v8, rfl, s3, hF⟩
      have dig : (prodL A B)[k]? = some ((cr A B k + cf A B k) % 10) := by
        unfold prodL
        rw [List.getElem?_map, List.getElem?_range hk]
        rfl
      have cb := cf_bd fA fB k
      -- behind the if: append and the carry
      refine ⟨_, rfl, ?_⟩
      refine ⟨_, rfl, _, rfl, D, _, _, _, rfl, rfl, sql (s3 _ _ hD), atI_nat (j := 0) rfl, r0, _, rfl, .inl (sql (s3 _ _ h0)), _, _, rfl, rfl, _, rfl, ?_⟩
      rw [il_len, mulL_len]
      by_cases c : k < A.length + B.length - 1
      · refine iteD (by omega) ?_
        refine ⟨_, rfl, _, rfl, D, rfl, ⟨_, sql (s3 _ _ hD)⟩, fun D2 nD2 => ?_⟩
        refine lc_list (K := K) (a := D) (xs := [.ref r0, .ref r1, .ref r2]) (fun i H4 => Same H3 H4 ∧ H4 D2 = some (.lst (il ([cf A B k % 193, cf A B k % 257, cf A B k % 449].take i)))) ⟨same_upd nD2, upd_same⟩ (fun i H4 _ h => sql (h.1 _ _ (s3 _ _ hD))) ?_ ?_
        · rintro i y H4 hy ⟨s4, hD2⟩
          obtain ⟨r, rfl, hri, i3, val⟩ : ∃ r, y = V.ref r ∧ [r0, r1, r2][i]? = some r ∧ i < 3 ∧ [cf A B k % 193, cf A B k % 257, cf A B k % 449][i]? = some (cf A B k % (pr3 i : Int)) := by
            match i, hy with
            | 0, h => exact ⟨r0, (Option.some.inj h).symm, rfl, by decide, rfl⟩
            | 1, h => exact ⟨r1, (Option.some.inj h).symm, rfl, by decide, rfl⟩
            | 2, h => exact ⟨r2, (Option.some.inj h).symm, rfl, by decide, rfl⟩
            | i + 3, h => exact absurd h (by simp)
          have hR := s4 _ _ (s3 _ _ (hrs i r hri))
          have hm : k < (mulL (pr3 i) A B).length := by rw [mulL_len]; exact c
          have ev : at0 (mulL (pr3 i) A B) k = cf A B k % (pr3 i : Int) := by
            rw [mulL_at c]
            rfl
          refine ⟨rfl, lcYes ?_⟩
          refine ⟨_, rfl, _, rfl, r, _, _, _, rfl, rfl, sql hR, at_of (j := k) (by omega) (at_il (at0_get hm)), ?_⟩
          rw [ev]
          refine ⟨_, hD2, ?_, s4.over nD2, ?_⟩
          · rw [il_len, List.length_take]
            exact small1000 (by omega)
          · rw [upd_same, List.take_add_one, val]
            unfold il
            rw [Option.toList_some, List.map_append]
            rfl
        · rintro H4 ⟨s4, hD2⟩
          have hD3 : H4 D2 = some (.lst (il [cf A B k % 193, cf A B k % 257, cf A B k % 449])) := hD2
          refine ⟨D2, cf A B k, rfl, cb.1, by omega, sql hD3, _, _, rfl, rfl, ?_⟩
          refine ⟨_, rfl, .inl ⟨rfl, _, sql (s4 _ _ hF)⟩, _, rfl, _, _, rfl, rfl, (by decide : (0 : Int) < 10), f, _, _, rfl, rfl, s4 _ _ hF, ?_, ?_⟩
          · rw [il_len, List.length_take]
            exact small1000 (by omega)
          · refine ⟨_, rfl, _, _, rfl, rfl, ⟨by decide, by decide⟩, _, _, rfl, (s3.trans s4).over nf, ?_⟩
            rw [upd_same, List.take_add_one, dig]
            unfold il
            rw [Option.toList_some, List.map_append]
            rfl
      · refine iteDF (by omega) ?_
        have z := cf_out (A := A) (B := B) (k := k) (by omega) nA nB
        have e0 : cr A B k + cf A B k = cr A B k := by omega
        rw [e0] at dig
        refine ⟨_, rfl, .inl ⟨rfl, _, sql hF⟩, _, rfl, _, _, rfl, rfl, (by decide : (0 : Int) < 10), f, _, _, rfl, rfl, hF, ?_, ?_⟩
        · rw [il_len, List.length_take]
          exact small1000 (by omega)
        · have e1 : cr A B (k + 1) = cr A B k / 10 := by
            show (cr A B k + cf A B k) / 10 = _
            rw [e0]
          refine ⟨_, rfl, _, _, rfl, rfl, ⟨by decide, by decide⟩, some (.int ((0 : Int) + k)), some (.int (cr A B k)), ?_, s3.over nf, ?_⟩
          · rw [e1]
            rfl
          · rw [upd_same, List.take_add_one, dig]
            unfold il
            rw [Option.toList_some, List.map_append]
            rfl
    · rintro σ H3 ⟨v7, v8, rfl, s3, hF⟩
      rw [List.take_of_length_le (by rw [prodL_len]; exact Nat.le_refl _)] at hF
      exact ⟨_, rfl, q _ _ (s02.trans s3) nF hF⟩
end
end Spw

namespace Spw
open PySem PySem.Spec PyProof.Rows L2 Spm
section
variable {P : Program} {w : World} {K : PySem.W.Frag} {mg : Str → Option Value} {base : Heap}
def sp_law (K : PySem.W.Frag) (C : Addr) : Sp := fun vs H Q _ => ∃ (a : Addr) (ns : List Int), vs = [.ref a] ∧ SqL K H a (il ns) ∧ ns.length ≤ 63 ∧ ∀ H', Q (.bl true) H'
theorem nines (n : Nat) : Figs (List.replicate n 9) := fun z hz => by
  rw [(List.mem_replicate.mp hz).2]
  decide
theorem told_small {A : List Int} (hA : Figs A) (hl : A.length ≤ 64) : (told A).natAbs < 2 ^ 256 := by
  have b := told_bd hA
  have e : (10 : Int) ^ A.length ≤ 10 ^ 64 := by
    have h : 10 ^ A.length ≤ 10 ^ 64 := Nat.pow_le_pow_right (by decide) hl
    exact_mod_cast h
  have c : told A < (10 ^ 64 : Nat) := by
    have d : (10 : Int) ^ 64 = ((10 ^ 64 : Nat) : Int) := by decide +kernel
    omega
  have d : (told A).natAbs < 10 ^ 64 := by omega
  exact Nat.lt_trans d (by decide +kernel)
theorem ok_law (T : Env K mg) : FnOk P w K mg base CX0 3 T.f_law T.d_law ["script"] (sp_law K T.C) := by
  refine T.F_law.ok sc_law (fun vs H Q E h => ?_) (fun cdv A outer s H vs Q E hr h => ?_)
  · obtain ⟨a, ns, rfl, _⟩ := h
    rfl
  · obtain ⟨a, ns, rfl, hS, hlen, q⟩ := h
    refine ⟨_, (pss_cons (ps_set (i := 1) sc_law.nd rfl (Or.inl rfl) (pe_call (ok_l_figures T) (hr.mono (by decide)) (by rfl) T.g_l_figures T.F_l_figures.kp T.b_l_figures .nil pass0 (pa_cons (pv 0) (pa_cons pe_int (pa_cons pe_int pa_nil)))))
      (pss_cons (ps_set (i := 2) sc_law.nd rfl (Or.inl rfl) (pe_call (ok_l_figures T) (hr.mono (by decide)) (by rfl) T.g_l_figures T.F_l_figures.kp T.b_l_figures .nil pass0 (pa_cons (pv 0) (pa_cons pe_int (pa_cons pe_int pa_nil)))))
      (pss_cons (ps_if (pt_cmpR op_eq (pe_op op_mod (pe_call (ok_l_cell_at T) (hr.mono (by decide)) (by rfl) T.g_l_cell_at T.F_l_cell_at.kp T.b_l_cell_at .nil pass0 (pa_cons (pv 0) (pa_cons pe_int pa_nil))) pe_int) pe_int (nomark _)) (pss_cons (ps_set (i := 1) sc_law.nd rfl (Or.inl rfl) (pe_op op_rep (pe_lst (pa_cons pe_int pa_nil)) (pe_callB call_len_seq (by rfl) T.n_len PySem.boot_len (pa_cons (pv 1) pa_nil))))
      (pss_one (ps_set (i := 2) sc_law.nd rfl (Or.inl rfl) (pe_op op_rep (pe_lst (pa_cons pe_int pa_nil)) (pe_callB call_len_seq (by rfl) T.n_len PySem.boot_len (pa_cons (pv 2) pa_nil)))))) pss_nil)
      (pss_cons (ps_set (i := 3) sc_law.nd rfl (Or.inl rfl) (pe_lst (pa_cons (pe_callTy call_list_of (by rfl) T.n_list (by decide +kernel) (pa_cons (pv 1) pa_nil)) (pa_cons (pe_callTy call_list_of (by rfl) T.n_list (by decide +kernel) (pa_cons (pv 2) pa_nil)) pa_nil))))
      (pss_cons (ps_set (i := 4) sc_law.nd rfl (Or.inl rfl) (pe_call (ok_long_product T) (hr.mono (by decide)) (by rfl) T.g_long_product T.F_long_product.kp T.b_long_product .nil pass0 (pa_cons (pe_ix ix_list (pv 3) pe_int (fun _ _ => rfl)) (pa_cons (pe_ix ix_list (pv 3) pe_int (fun _ _ => rfl)) pa_nil))))
      (pss_cons (ps_if (PW.pt (pw_or (pt_not (pt_val (pe_call (ok_l_numbers T) (hr.mono (by decide)) (by rfl) T.g_l_numbers T.F_l_numbers.kp T.b_l_numbers .nil pass0 (pa_cons (pv 4) (pa_cons (pe_callTy call_list_of (by rfl) T.n_list (by decide +kernel) (pa_cons (pv 4) pa_nil)) pa_nil))))) (pw_or (pt_cmpR op_ne (pe_callB call_len_seq (by rfl) T.n_len PySem.boot_len (pa_cons (pv 4) pa_nil)) (pe_op op_add (pe_callB call_len_seq (by rfl) T.n_len PySem.boot_len (pa_cons (pv 1) pa_nil)) (pe_callB call_len_seq (by rfl) T.n_len PySem.boot_len (pa_cons (pv 2) pa_nil))) (nomark _)) (pw_or1 (pt_cmpR (op_neD hr.units) (pv 3) (pe_lst (pa_cons (pv 1) (pa_cons (pv 2) pa_nil))) (nomark _)))))) (pss_one (ps_ret pe_bl)) pss_nil)
      (pss_cons (ps_for PassesOwn.never rfl (pi_list (pv 4)) (pg_name (i := 5) sc_law.nd rfl (Or.inl rfl)) (pss_one (ps_if (pt_not (pt_chain op_le op_le pe_int (pv 5) pe_int)) (pss_one (ps_ret pe_bl)) pss_nil)))
      (pss_cons (ps_if (pt_cmpR op_ne (pe_call (ok_l_told T) (hr.mono (by decide)) (by rfl) T.g_l_told T.F_l_told.kp T.b_l_told .nil pass0 (pa_cons (pv 4) pa_nil)) (pe_op op_mulW (pe_call (ok_l_told T) (hr.mono (by decide)) (by rfl) T.g_l_told T.F_l_told.kp T.b_l_told .nil pass0 (pa_cons (pv 1) pa_nil)) (pe_call (ok_l_told T) (hr.mono (by decide)) (by rfl) T.g_l_told T.F_l_told.kp T.b_l_told .nil pass0 (pa_cons (pv 2) pa_nil))) (nomark _)) (pss_one (ps_ret pe_bl)) pss_nil)
      (pss_cons (ps_set (i := 6) sc_law.nd rfl (Or.inl rfl) (pe_callTy call_list_of (by rfl) T.n_list (by decide +kernel) (pa_cons (pv 4) pa_nil)))
      (pss_cons (ps_expr (pe_bm PySem.F.plainAttrs_list PySem.F.slot_list_append PySem.F.type_list_append mt_append (pv 4) (pa_cons pe_int pa_nil)))
      (pss_one (ps_ret (pe_and (pe_cmpR (op_eqD hr.units) (pe_call (ok_long_product T) (hr.mono (by decide)) (by rfl) T.g_long_product T.F_long_product.kp T.b_long_product .nil pass0 (pa_cons (pe_callTy call_list_of (by rfl) T.n_list (by decide +kernel) (pa_cons (pv 2) pa_nil)) (pa_cons (pe_callTy call_list_of (by rfl) T.n_list (by decide +kernel) (pa_cons (pv 1) pa_nil)) pa_nil))) (pv 6) (nomark _)) (pe_one (pe_cmpR (op_eqD hr.units) (pe_call (ok_long_product T) (hr.mono (by decide)) (by rfl) T.g_long_product T.F_long_product.kp T.b_long_product .nil pass0 (pa_cons (pv 1) (pa_cons (pv 2) pa_nil))) (pv 6) (nomark _)))))))))))))))), ?_⟩
    refine' share3 (fun l m H2 => ∃ A B : List Int, Same H H2 ∧ H2 l = some (.lst (il A)) ∧ H2 m = some (.lst (il B)) ∧ Figs A ∧ Figs B ∧ 0 < A.length ∧ A.length ≤ 64 ∧ 0 < B.length ∧ B.length ≤ 64) (fun key => ?way) ?on
    case way =>
      refine ⟨_, rfl, a, ns, 0, rfl, hS, fun A H1 l a0 a1 fA s1 nl hL => ?_⟩
      refine ⟨_, rfl, a, ns, 30, rfl, s1.seq hS, fun B H2 m b0 b1 fB s2 nm hM => ?_⟩
      have s12 := s1.trans s2
      refine ⟨_, rfl, a, ns, 60, rfl, s12.seq hS, _, _, rfl, rfl, (by decide : (0 : Int) < 4), rfl, _, rfl, ite2 (fun _ => ?nine) (fun _ => ?as_is)⟩
      case as_is => exact key l m H2 ⟨A, B, s12, s2 _ _ hL, hM, fA, fB, a0, a1, b0, b1⟩
      case nine =>
        have lA : (il A).length = A.length := il_len
        have lB : (il B).length = B.length := il_len
        refine ⟨le1 _, fun o1 no1 => ?_⟩
        have e1 := same_upd (o := .lst [.int 9]) no1
        refine ⟨_, rfl, l, _, rfl, .inl (sql (e1 _ _ (s2 _ _ hL))), o1, _, _, rfl, rfl, upd_same, by omega, by omega, line_le' (by show 1 * _ ≤ 2000; omega), fun o2 no2 => ?_⟩
        have e2 := e1.trans (same_upd (o := .lst (List.replicate (((il A).length : Nat) : Int).toNat [V.int 9]).flatten) no2)
        refine ⟨le1 _, fun o3 no3 => ?_⟩
        have e3 := e2.trans (same_upd (o := .lst [.int 9]) no3)
        refine ⟨_, rfl, m, _, rfl, .inl (sql (e3 _ _ hM)), o3, _, _, rfl, rfl, upd_same, by omega, by omega, line_le' (by show 1 * _ ≤ 2000; omega), fun o4 no4 => ?_⟩
        have e4 := e3.trans (same_upd (o := .lst (List.replicate (((il B).length : Nat) : Int).toNat [V.int 9]).flatten) no4)
        refine key o2 o4 _ ⟨List.replicate A.length 9, List.replicate B.length 9, s12.trans e4, ?_, ?_, nines _, nines _, by rw [List.length_replicate]; exact a0, by rw [List.length_replicate]; exact a1, by rw [List.length_replicate]; exact b0, by rw [List.length_replicate]; exact b1⟩
        · have h2 : o2 ≠ o3 := ne_of_none upd_same no3
          have h4 : o2 ≠ o4 := ne_of_none (by rw [upd_ne h2]; exact upd_same) no4
          rw [upd_ne h4, upd_ne h2, upd_same, rep_il, show (((il A).length : Nat) : Int).toNat = A.length by omega]
        · rw [upd_same, rep_il, show (((il B).length : Nat) : Int).toNat = B.length by omega]
    case on =>
      rintro l m H2 ⟨A, B, s2, hL, hM, fA, fB, a0, a1, b0, b1⟩
      have lA : (il A).length = A.length := il_len
      have lB : (il B).length = B.length := il_len
      have lP := prodL_len A B
      -- handed
      refine ⟨_, rfl, l, _, rfl, .inl (sql hL), fun c1 nc1 => ?_⟩
      have t1 := same_upd (o := .lst (il A)) nc1
      refine ⟨_, rfl, m, _, rfl, .inl (sql (t1 _ _ hM)), fun c2 nc2 => ?_⟩
      have e12 := same_upd (o := .lst (il B)) nc2
      have hC1' := e12 _ _ (show (upd H2 c1 (.lst (il A))) c1 = some (.lst (il A)) from upd_same)
      have hC2 : (upd (upd H2 c1 (.lst (il A))) c2 (.lst (il B))) c2 = some (.lst (il B)) := upd_same
      have t2 := t1.trans e12
      refine ⟨le2 _ _, fun g ng => ?_⟩
      have e3 := same_upd (o := .lst [.ref c1, .ref c2]) ng
      have t3 := t2.trans e3
      have hG : (upd (upd (upd H2 c1 (.lst (il A))) c2 (.lst (il B))) g (.lst [.ref c1, .ref c2])) g = some (.lst [.ref c1, .ref c2]) := upd_same
      have hC1 := e3 _ _ hC1'
      have hC2 := e3 _ _ hC2
      generalize upd (upd (upd H2 c1 (.lst (il A))) c2 (.lst (il B))) g (.lst [.ref c1, .ref c2]) = H3 at t3 hG hC1 hC2 ⊢
      clear e3 t2 hC1' e12 t1
      have hL3 := t3 _ _ hL
      have hM3 := t3 _ _ hM
      refine ⟨_, rfl, g, _, _, _, rfl, rfl, sql hG, atI_nat (j := 0) rfl, ?_⟩
      refine ⟨_, rfl, g, _, _, _, rfl, rfl, sql hG, atI_nat (j := 1) rfl, ?_⟩
      refine ⟨c1, c2, A, B, rfl, sql hC1, sql hC2, fA, fB, a0, a1, b0, b1, fun H4 o s4 no hO => ?_⟩
      have lo : l ≠ o := ne_of_none hL3 no
      have mo : m ≠ o := ne_of_none hM3 no
      have hL4 := s4 _ _ hL3
      have hM4 := s4 _ _ hM3
      -- numbers, length, handed
      refine ⟨_, rfl, _, rfl, o, _, rfl, .inl (sql hO), fun c3 nc3 => ?_⟩
      have e5 : Same H4 (upd H4 c3 (.lst (il (prodL A B)))) := same_upd nc3
      refine ⟨o, c3, _, _, rfl, e5 _ _ hO, sql upd_same, true, by rw [decide_eq_true rfl], iteF ?_⟩
      refine ⟨_, rfl, o, _, rfl, .inl (sql (e5 _ _ hO)), _, rfl, l, _, rfl, .inl (sql (e5 _ _ hL4)), _, rfl, m, _, rfl, .inl (sql (e5 _ _ hM4)), _, _, rfl, rfl, rfl, _, rfl, ?_⟩
      rw [il_len, lP, lA, lB]
      refine iteNS rfl ?_
      refine ⟨_, rfl, _, rfl, _, rfl, le2 _ _, fun u nu => ?_⟩
      have e6 := e5.trans (same_upd (o := .lst [.ref l, .ref m]) nu)
      have s46 := s4.trans e6
      refine ⟨_, _, dp_two (sql (s46 _ _ hG)) (sql (s46 _ _ hC1)) (sql (s46 _ _ hC2)), dp_two (sql upd_same) (sql (e6 _ _ hL4)) (sql (e6 _ _ hM4)), shaped_two A B, shaped_two A B, _, rfl, ?_⟩
      rw [eqv_two]
      refine iteF ?_
      generalize upd (upd H4 c3 (.lst (il (prodL A B)))) u (.lst [.ref l, .ref m]) = H5 at e6 ⊢
      have hO5 := e6 _ _ hO
      have hL5 := e6 _ _ hL4
      have hM5 := e6 _ _ hM4
      obtain ⟨tp, fP⟩ := prodL_told fA fB
      -- figures alone
      refine ⟨_, rfl, o, rfl, ⟨_, sql hO5⟩, for_list (K := K) (a := o) (xs := il (prodL A B)) (fun i σ H' => ∃ v, σ = [some (.ref a), some (.ref l), some (.ref m), some (.ref g), some (.ref o), v, none] ∧ H' = H5) ⟨none, rfl, rfl⟩ (fun i σ H' _ ⟨_, _, e⟩ => by rw [e]; exact sql hO5) ?_ ?_⟩
      · rintro i w σ H' hi ⟨v, rfl, rfl⟩
        obtain ⟨z, hz, rfl⟩ := il_at hi
        obtain ⟨z0, z1⟩ := fP z (List.mem_of_getElem? hz)
        refine ⟨_, rfl, _, _, rfl, rfl, _, rfl, iteD z0 ⟨_, _, rfl, rfl, _, rfl, iteNS z1 ?_⟩⟩
        exact ⟨_, rfl, rfl⟩
      · rintro σ H' ⟨v, rfl, rfl⟩
        -- what they tell
        refine ⟨_, rfl, o, prodL A B, rfl, sql hO5, _, rfl, l, A, rfl, sql hL5, _, rfl, m, B, rfl, sql hM5, ?_⟩
        refine ⟨_, _, rfl, rfl, wide_mul (told_small fA a1) (told_small fB b1) (by decide) (by decide) (by decide), rfl, _, rfl, ?_⟩
        refine iteNS (congrArg V.int tp) ?_
        -- kept; the list changed
        refine ⟨_, rfl, o, _, rfl, .inl (sql hO5), fun e ne => ?_⟩
        have s12 : Same H' (upd H' e (.lst (il (prodL A B)))) := same_upd ne
        have oe : o ≠ e := ne_of_none hO5 ne
        refine ⟨_, rfl, .inl ⟨rfl, _, sql (s12 _ _ hO5)⟩, o, _, _, rfl, rfl, s12 _ _ hO5, ?_, ?_⟩
        · rw [il_len, lP]
          exact small1000 (by omega)
        have hE : (upd (upd H' e (.lst (il (prodL A B)))) o (.lst (il (prodL A B) ++ [V.int 0]))) e = some (.lst (il (prodL A B))) := by
          rw [upd_ne (Ne.symm oe), upd_same]
        have hL6 : (upd (upd H' e (.lst (il (prodL A B)))) o (.lst (il (prodL A B) ++ [V.int 0]))) l = some (.lst (il A)) := by
          rw [upd_ne lo]
          exact s12 _ _ hL5
        have hM6 : (upd (upd H' e (.lst (il (prodL A B)))) o (.lst (il (prodL A B) ++ [V.int 0]))) m = some (.lst (il B)) := by
          rw [upd_ne mo]
          exact s12 _ _ hM5
        generalize upd (upd H' e (.lst (il (prodL A B)))) o (.lst (il (prodL A B) ++ [V.int 0])) = H6 at hE hL6 hM6 ⊢
        refine ⟨_, rfl, m, _, rfl, .inl (sql hM6), fun c5 nc5 => ?_⟩
        have e7 := same_upd (o := .lst (il B)) nc5
        refine ⟨_, rfl, l, _, rfl, .inl (sql (e7 _ _ hL6)), fun c6 nc6 => ?_⟩
        have e8 := same_upd (o := .lst (il A)) nc6
        have e78 := e7.trans e8
        refine ⟨c5, c6, B, A, rfl, sql (e8 _ _ upd_same), sql upd_same, fB, fA, b0, b1, a0, a1, fun H7 r s7 nr hR => ?_⟩
        rw [prodL_comm] at hR
        have s67 := e78.trans s7
        refine ⟨_, rfl, _, _, dp_ls (sql hR), dp_ls (sql (s67 _ _ hE)), shaped_all _, shaped_all _, ?_⟩
        rw [eqv_il, decide_eq_true rfl]
        refine ⟨true, rfl, iteT ?_⟩
        refine ⟨_, rfl, _, rfl, l, m, A, B, rfl, sql (s67 _ _ hL6), sql (s67 _ _ hM6), fA, fB, a0, a1, b0, b1, fun H8 r2 s8 nr2 hR2 => ?_⟩
        refine ⟨_, rfl, _, _, dp_ls (sql hR2), dp_ls (sql (s8 _ _ (s67 _ _ hE))), shaped_all _, shaped_all _, ?_⟩
        rw [eqv_il, decide_eq_true rfl]
        exact q _
end
end Spw

namespace Spw
open PySem PySem.Spec PyProof.Rows L2 Spm
theorem all_mk {l : PySem.W.OpenLaw} {w : World} {K : PySem.W.Frag} {h : Heap} {mg : Str → Option Value} {fa C f_l_cell_at f_l_figures f_l_whole f_l_numbers f_l_told f_ask_figures f_joined f_multiplied f_long_product f_law P_PRIMES : Addr} (X : K.In h) (G : h.Ns mainGlobals mg) (hfa : mg "law" = some (.ref fa))
    {od_l_cell_at an_l_cell_at : Option Addr} {sl_l_cell_at : Array (Option Value)} {oc_l_cell_at kV_l_cell_at dc_l_cell_at pm_l_cell_at cd_l_cell_at ct_l_cell_at : Value}
    {od_l_figures an_l_figures : Option Addr} {sl_l_figures : Array (Option Value)} {oc_l_figures kV_l_figures dc_l_figures pm_l_figures cd_l_figures ct_l_figures : Value}
    {od_l_whole an_l_whole : Option Addr} {sl_l_whole : Array (Option Value)} {oc_l_whole kV_l_whole dc_l_whole pm_l_whole cd_l_whole ct_l_whole : Value}
    {od_l_numbers an_l_numbers : Option Addr} {sl_l_numbers : Array (Option Value)} {oc_l_numbers kV_l_numbers dc_l_numbers pm_l_numbers cd_l_numbers ct_l_numbers : Value}
    {od_l_told an_l_told : Option Addr} {sl_l_told : Array (Option Value)} {oc_l_told kV_l_told dc_l_told pm_l_told cd_l_told ct_l_told : Value}
    {od_ask_figures an_ask_figures : Option Addr} {sl_ask_figures : Array (Option Value)} {oc_ask_figures kV_ask_figures dc_ask_figures pm_ask_figures cd_ask_figures ct_ask_figures : Value}
    {od_joined an_joined : Option Addr} {sl_joined : Array (Option Value)} {oc_joined kV_joined dc_joined pm_joined cd_joined ct_joined : Value}
    {od_multiplied an_multiplied : Option Addr} {sl_multiplied : Array (Option Value)} {oc_multiplied kV_multiplied dc_multiplied pm_multiplied cd_multiplied ct_multiplied : Value}
    {od_long_product an_long_product : Option Addr} {sl_long_product : Array (Option Value)} {oc_long_product kV_long_product dc_long_product pm_long_product cd_long_product ct_long_product : Value}
    {od_law an_law : Option Addr} {sl_law : Array (Option Value)} {oc_law kV_law dc_law pm_law cd_law ct_law : Value}
    {t0_PRIMES t1_PRIMES t2_PRIMES : Tok} {nn_PRIMES : Nat} {sl_PRIMES : Array (Option Value)}
    (a_l_cell_at : PySem.W.nsIn K mainGlobals "_law_cell_at" = some (some (.ref f_l_cell_at)))
    (l_l_cell_at : K.lookup f_l_cell_at = some ⟨oc_l_cell_at, od_l_cell_at, .func (PySem.W.fnOf "_law_cell_at" "_law_cell_at" (defArgs s_l_cell_at) (defBody s_l_cell_at) (defScope s_l_cell_at) .none kV_l_cell_at dc_l_cell_at pm_l_cell_at an_l_cell_at cd_l_cell_at ct_l_cell_at), sl_l_cell_at⟩)
    (c_l_cell_at : PySem.W.codeIn K cd_l_cell_at "_law_cell_at" = true)
    (k_l_cell_at : PySem.W.keepIn K (.ref f_l_cell_at) = true)
    (a_l_figures : PySem.W.nsIn K mainGlobals "_law_figures" = some (some (.ref f_l_figures)))
    (l_l_figures : K.lookup f_l_figures = some ⟨oc_l_figures, od_l_figures, .func (PySem.W.fnOf "_law_figures" "_law_figures" (defArgs s_l_figures) (defBody s_l_figures) (defScope s_l_figures) .none kV_l_figures dc_l_figures pm_l_figures an_l_figures cd_l_figures ct_l_figures), sl_l_figures⟩)
    (c_l_figures : PySem.W.codeIn K cd_l_figures "_law_figures" = true)
    (k_l_figures : PySem.W.keepIn K (.ref f_l_figures) = true)
    (a_l_whole : PySem.W.nsIn K mainGlobals "_law_whole" = some (some (.ref f_l_whole)))
    (l_l_whole : K.lookup f_l_whole = some ⟨oc_l_whole, od_l_whole, .func (PySem.W.fnOf "_law_whole" "_law_whole" (defArgs s_l_whole) (defBody s_l_whole) (defScope s_l_whole) .none kV_l_whole dc_l_whole pm_l_whole an_l_whole cd_l_whole ct_l_whole), sl_l_whole⟩)
    (c_l_whole : PySem.W.codeIn K cd_l_whole "_law_whole" = true)
    (k_l_whole : PySem.W.keepIn K (.ref f_l_whole) = true)
    (a_l_numbers : PySem.W.nsIn K mainGlobals "_law_numbers" = some (some (.ref f_l_numbers)))
    (l_l_numbers : K.lookup f_l_numbers = some ⟨oc_l_numbers, od_l_numbers, .func (PySem.W.fnOf "_law_numbers" "_law_numbers" (defArgs s_l_numbers) (defBody s_l_numbers) (defScope s_l_numbers) .none kV_l_numbers dc_l_numbers pm_l_numbers an_l_numbers cd_l_numbers ct_l_numbers), sl_l_numbers⟩)
    (c_l_numbers : PySem.W.codeIn K cd_l_numbers "_law_numbers" = true)
    (k_l_numbers : PySem.W.keepIn K (.ref f_l_numbers) = true)
    (a_l_told : PySem.W.nsIn K mainGlobals "_law_told" = some (some (.ref f_l_told)))
    (l_l_told : K.lookup f_l_told = some ⟨oc_l_told, od_l_told, .func (PySem.W.fnOf "_law_told" "_law_told" (defArgs s_l_told) (defBody s_l_told) (defScope s_l_told) .none kV_l_told dc_l_told pm_l_told an_l_told cd_l_told ct_l_told), sl_l_told⟩)
    (c_l_told : PySem.W.codeIn K cd_l_told "_law_told" = true)
    (k_l_told : PySem.W.keepIn K (.ref f_l_told) = true)
    (a_ask_figures : PySem.W.nsIn K mainGlobals "ask_figures" = some (some (.ref f_ask_figures)))
    (l_ask_figures : K.lookup f_ask_figures = some ⟨oc_ask_figures, od_ask_figures, .func (PySem.W.fnOf "ask_figures" "ask_figures" (defArgs s_ask_figures) (defBody s_ask_figures) (defScope s_ask_figures) .none kV_ask_figures dc_ask_figures pm_ask_figures an_ask_figures cd_ask_figures ct_ask_figures), sl_ask_figures⟩)
    (c_ask_figures : PySem.W.codeIn K cd_ask_figures "ask_figures" = true)
    (k_ask_figures : PySem.W.keepIn K (.ref f_ask_figures) = true)
    (a_joined : PySem.W.nsIn K mainGlobals "joined" = some (some (.ref f_joined)))
    (l_joined : K.lookup f_joined = some ⟨oc_joined, od_joined, .func (PySem.W.fnOf "joined" "joined" (defArgs s_joined) (defBody s_joined) (defScope s_joined) .none kV_joined dc_joined pm_joined an_joined cd_joined ct_joined), sl_joined⟩)
    (c_joined : PySem.W.codeIn K cd_joined "joined" = true)
    (k_joined : PySem.W.keepIn K (.ref f_joined) = true)
    (a_multiplied : PySem.W.nsIn K mainGlobals "multiplied" = some (some (.ref f_multiplied)))
    (l_multiplied : K.lookup f_multiplied = some ⟨oc_multiplied, od_multiplied, .func (PySem.W.fnOf "multiplied" "multiplied" (defArgs s_multiplied) (defBody s_multiplied) (defScope s_multiplied) .none kV_multiplied dc_multiplied pm_multiplied an_multiplied cd_multiplied ct_multiplied), sl_multiplied⟩)
    (c_multiplied : PySem.W.codeIn K cd_multiplied "multiplied" = true)
    (k_multiplied : PySem.W.keepIn K (.ref f_multiplied) = true)
    (a_long_product : PySem.W.nsIn K mainGlobals "long_product" = some (some (.ref f_long_product)))
    (l_long_product : K.lookup f_long_product = some ⟨oc_long_product, od_long_product, .func (PySem.W.fnOf "long_product" "long_product" (defArgs s_long_product) (defBody s_long_product) (defScope s_long_product) .none kV_long_product dc_long_product pm_long_product an_long_product cd_long_product ct_long_product), sl_long_product⟩)
    (c_long_product : PySem.W.codeIn K cd_long_product "long_product" = true)
    (k_long_product : PySem.W.keepIn K (.ref f_long_product) = true)
    (a_law : PySem.W.nsIn K mainGlobals "law" = some (some (.ref f_law)))
    (l_law : K.lookup f_law = some ⟨oc_law, od_law, .func (PySem.W.fnOf "law" "law" (defArgs s_law) (defBody s_law) (defScope s_law) .none kV_law dc_law pm_law an_law cd_law ct_law), sl_law⟩)
    (c_law : PySem.W.codeIn K cd_law "law" = true)
    (k_law : PySem.W.keepIn K (.ref f_law) = true)
    (z_bool : PySem.W.nsIn K mainGlobals "bool" = some none)
    (z_int : PySem.W.nsIn K mainGlobals "int" = some none)
    (z_isinstance : PySem.W.nsIn K mainGlobals "isinstance" = some none)
    (z_len : PySem.W.nsIn K mainGlobals "len" = some none)
    (z_list : PySem.W.nsIn K mainGlobals "list" = some none)
    (z_range : PySem.W.nsIn K mainGlobals "range" = some none)
    (z_reversed : PySem.W.nsIn K mainGlobals "reversed" = some none)
    (a_PRIMES : PySem.W.nsIn K mainGlobals "PRIMES" = some (some (.ref P_PRIMES)))
    (l_PRIMES : K.lookup P_PRIMES = some ⟨.type "list", Option.none, .seq #[.int 193 t0_PRIMES, .int 257 t1_PRIMES, .int 449 t2_PRIMES] nn_PRIMES, sl_PRIMES⟩) :
    ∃ fd : FuncData, (∀ (s : Shared) (v : Value), BindsTo s fd ⟨[v], []⟩ [("script", v)]) ∧ ∀ base : Heap, K.In base → base.Ns mainGlobals mg → FnOk l.prog w K mg base CX0 3 fa fd ["script"] (sp_law K 0) := by
  have e := hfa.symm.trans (PySem.W.mg_of X G a_law)
  cases e
  have F_l_cell_at := fun_mk (st := s_l_cell_at) l_l_cell_at c_l_cell_at k_l_cell_at
  have b_l_cell_at := F_l_cell_at.binds (ps := ["script", "k"]) fun _ _ _ _ _ _ us hl => match us, hl with | [_, _], _ => rfl
  have F_l_figures := fun_mk (st := s_l_figures) l_l_figures c_l_figures k_l_figures
  have b_l_figures := F_l_figures.binds (ps := ["script", "at", "most"]) fun _ _ _ _ _ _ us hl => match us, hl with | [_, _, _], _ => rfl
  have F_l_whole := fun_mk (st := s_l_whole) l_l_whole c_l_whole k_l_whole
  have b_l_whole := F_l_whole.binds (ps := ["found"]) fun _ _ _ _ _ _ us hl => match us, hl with | [_], _ => rfl
  have F_l_numbers := fun_mk (st := s_l_numbers) l_l_numbers c_l_numbers k_l_numbers
  have b_l_numbers := F_l_numbers.binds (ps := ["found", "due"]) fun _ _ _ _ _ _ us hl => match us, hl with | [_, _], _ => rfl
  have F_l_told := fun_mk (st := s_l_told) l_l_told c_l_told k_l_told
  have b_l_told := F_l_told.binds (ps := ["figures"]) fun _ _ _ _ _ _ us hl => match us, hl with | [_], _ => rfl
  have F_ask_figures := fun_mk (st := s_ask_figures) l_ask_figures c_ask_figures k_ask_figures
  have b_ask_figures := F_ask_figures.binds (ps := ["some"]) fun _ _ _ _ _ _ us hl => match us, hl with | [_], _ => rfl
  have F_joined := fun_mk (st := s_joined) l_joined c_joined k_joined
  have b_joined := F_joined.binds (ps := ["rests"]) fun _ _ _ _ _ _ us hl => match us, hl with | [_], _ => rfl
  have F_multiplied := fun_mk (st := s_multiplied) l_multiplied c_multiplied k_multiplied
  have b_multiplied := F_multiplied.binds (ps := ["prime", "one", "other"]) fun _ _ _ _ _ _ us hl => match us, hl with | [_, _, _], _ => rfl
  have F_long_product := fun_mk (st := s_long_product) l_long_product c_long_product k_long_product
  have b_long_product := F_long_product.binds (ps := ["one", "other"]) fun _ _ _ _ _ _ us hl => match us, hl with | [_, _], _ => rfl
  have F_law := fun_mk (st := s_law) l_law c_law k_law
  have b_law := F_law.binds (ps := ["script"]) fun _ _ _ _ _ _ us hl => match us, hl with | [_], _ => rfl
  let T : Env K mg := { C := C, f_l_cell_at := f_l_cell_at, d_l_cell_at := _, F_l_cell_at := F_l_cell_at, b_l_cell_at := b_l_cell_at, g_l_cell_at := PySem.W.mg_of X G a_l_cell_at, f_l_figures := f_l_figures, d_l_figures := _, F_l_figures := F_l_figures, b_l_figures := b_l_figures, g_l_figures := PySem.W.mg_of X G a_l_figures, f_l_whole := f_l_whole, d_l_whole := _, F_l_whole := F_l_whole, b_l_whole := b_l_whole, g_l_whole := PySem.W.mg_of X G a_l_whole, f_l_numbers := f_l_numbers, d_l_numbers := _, F_l_numbers := F_l_numbers, b_l_numbers := b_l_numbers, g_l_numbers := PySem.W.mg_of X G a_l_numbers, f_l_told := f_l_told, d_l_told := _, F_l_told := F_l_told, b_l_told := b_l_told, g_l_told := PySem.W.mg_of X G a_l_told, f_ask_figures := f_ask_figures, d_ask_figures := _, F_ask_figures := F_ask_figures, b_ask_figures := b_ask_figures, g_ask_figures := PySem.W.mg_of X G a_ask_figures, f_joined := f_joined, d_joined := _, F_joined := F_joined, b_joined := b_joined, g_joined := PySem.W.mg_of X G a_joined, f_multiplied := f_multiplied, d_multiplied := _, F_multiplied := F_multiplied, b_multiplied := b_multiplied, g_multiplied := PySem.W.mg_of X G a_multiplied, f_long_product := f_long_product, d_long_product := _, F_long_product := F_long_product, b_long_product := b_long_product, g_long_product := PySem.W.mg_of X G a_long_product, f_law := fa, d_law := _, F_law := F_law, b_law := b_law, g_law := PySem.W.mg_of X G a_law, n_bool := PySem.W.mg_none_of X G z_bool, n_int := PySem.W.mg_none_of X G z_int, n_isinstance := PySem.W.mg_none_of X G z_isinstance, n_len := PySem.W.mg_none_of X G z_len, n_list := PySem.W.mg_none_of X G z_list, n_range := PySem.W.mg_none_of X G z_range, n_reversed := PySem.W.mg_none_of X G z_reversed, P_PRIMES := P_PRIMES, g_PRIMES := PySem.W.mg_of X G a_PRIMES, q_PRIMES := fun H => .inr ⟨_, _, _, l_PRIMES, rfl, rfl, rfl, line_le (by show 3 ≤ 1000; decide), .cons ⟨_, rfl⟩ (.cons ⟨_, rfl⟩ (.cons ⟨_, rfl⟩ (.nil)))⟩ }
  exact ⟨T.d_law, fun s v => .of_eq rfl, fun base _ _ => ok_law T⟩
end Spw
open PySem PySem.W PyProof.Rows
set_option maxRecDepth 100000 in
set_option maxHeartbeats 0 in
theorem PySem.Challenge.cw_spinsum_k12_whole_long_products_holds : PySem.Challenge.rw_spinsum_k12_whole_long_products.Holds := by
  w_on; o_law; k_head; (case hw => w_witness2)
  k_fill
  refine L2.walk_of (l := PySem.Challenge.rw_spinsum_k12_whole_long_products) (n := 63) (k := 3) (x := "script") (CX := fun _ => L2.CX0) (sp := fun w => Spw.sp_law _ 0) rfl (by decide) rfl ⟨rfl, by decide, by decide⟩ (fun w h Y => PySem.W.kIn_of Y) ?F (fun _ _ a ns hl _ hS => ⟨a, ns, rfl, hS, hl, fun _ => rfl⟩) (fun _ _ _ _ _ h => h)
  case F =>
    intro w mg fa h KX G hmg
    refine' Spw.all_mk (C := 0) KX G hmg ?a_l_cell_at ?l_l_cell_at ?c_l_cell_at ?k_l_cell_at ?a_l_figures ?l_l_figures ?c_l_figures ?k_l_figures ?a_l_whole ?l_l_whole ?c_l_whole ?k_l_whole ?a_l_numbers ?l_l_numbers ?c_l_numbers ?k_l_numbers ?a_l_told ?l_l_told ?c_l_told ?k_l_told ?a_ask_figures ?l_ask_figures ?c_ask_figures ?k_ask_figures ?a_joined ?l_joined ?c_joined ?k_joined ?a_multiplied ?l_multiplied ?c_multiplied ?k_multiplied ?a_long_product ?l_long_product ?c_long_product ?k_long_product ?a_law ?l_law ?c_law ?k_law ?z_bool ?z_int ?z_isinstance ?z_len ?z_list ?z_range ?z_reversed ?a_PRIMES ?l_PRIMES
    (case a_l_cell_at => k_is)
    (case l_l_cell_at => k_is)
    (case c_l_cell_at => k_is)
    (case k_l_cell_at => k_is)
    (case a_l_figures => k_is)
    (case l_l_figures => k_is)
    (case c_l_figures => k_is)
    (case k_l_figures => k_is)
    (case a_l_whole => k_is)
    (case l_l_whole => k_is)
    (case c_l_whole => k_is)
    (case k_l_whole => k_is)
    (case a_l_numbers => k_is)
    (case l_l_numbers => k_is)
    (case c_l_numbers => k_is)
    (case k_l_numbers => k_is)
    (case a_l_told => k_is)
    (case l_l_told => k_is)
    (case c_l_told => k_is)
    (case k_l_told => k_is)
    (case a_ask_figures => k_is)
    (case l_ask_figures => k_is)
    (case c_ask_figures => k_is)
    (case k_ask_figures => k_is)
    (case a_joined => k_is)
    (case l_joined => k_is)
    (case c_joined => k_is)
    (case k_joined => k_is)
    (case a_multiplied => k_is)
    (case l_multiplied => k_is)
    (case c_multiplied => k_is)
    (case k_multiplied => k_is)
    (case a_long_product => k_is)
    (case l_long_product => k_is)
    (case c_long_product => k_is)
    (case k_long_product => k_is)
    (case a_law => k_is)
    (case l_law => k_is)
    (case c_law => k_is)
    (case k_law => k_is)
    (case z_bool => k_is)
    (case z_int => k_is)
    (case z_isinstance => k_is)
    (case z_len => k_is)
    (case z_list => k_is)
    (case z_range => k_is)
    (case z_reversed => k_is)
    (case a_PRIMES => k_is)
    (case l_PRIMES => k_is)
