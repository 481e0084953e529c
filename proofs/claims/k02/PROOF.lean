import PyProof.Rows.All
import Wide.All
import OpenK.AllK
import Wide.FinOn
import PyProof.EqAt
import PyProof.EqKinds
import PyProof.TupleCall
import HandS.ForMost
import HandS.IsInst
import HandS.SortInts
import HandS.Zip
import HandS.Wide
import HandS.NoneIn
import HandS.Conv
import HandS.Exc
import HandS.ExcOwn
import HandS.WordsExc
import HandS.ExcIs
import PySem.Challenge.RW_spinsum_k02_primes
set_option Elab.async false
set_option linter.all false
set_option maxRecDepth 100000
set_option maxHeartbeats 4000000

namespace Spm
/-! Sums and rows over a commutative ring. -/
open Lean.Grind
section
variable {R : Type} [CommRing R]
def S (f : Nat → R) : Nat → R
  | 0 => 0
  | n + 1 => S f n + f n
theorem S_zero (f : Nat → R) : S f 0 = 0 := rfl
theorem S_succ (f : Nat → R) (n : Nat) : S f (n + 1) = S f n + f n := rfl
theorem S_congr {f g : Nat → R} : ∀ {n : Nat}, (∀ i, i < n → f i = g i) → S f n = S g n
  | 0, _ => rfl
  | n + 1, h => by
    rw [S_succ, S_succ, S_congr (fun i hi => h i (Nat.lt_succ_of_lt hi)), h n (Nat.lt_succ_self n)]
theorem S_add (f g : Nat → R) : ∀ n, S (fun i => f i + g i) n = S f n + S g n
  | 0 => by simp only [S_zero]; grind
  | n + 1 => by
    have ih := S_add f g n
    simp only [S_succ]; rw [ih]; grind
theorem S_mul (c : R) (f : Nat → R) : ∀ n, S (fun i => c * f i) n = c * S f n
  | 0 => by simp only [S_zero]; grind
  | n + 1 => by
    have ih := S_mul c f n
    simp only [S_succ]; rw [ih]; grind
theorem S_mul_r (c : R) (f : Nat → R) (n : Nat) : S (fun i => f i * c) n = S f n * c := by
  have h := S_mul c f n
  rw [S_congr (g := fun i => c * f i) (fun i _ => by grind), h]; grind
theorem S_nil (n : Nat) : S (fun _ => (0 : R)) n = 0 := by
  induction n with
  | zero => rfl
  | succ n ih => rw [S_succ, ih]; grind
theorem S_eq0 {f : Nat → R} {n : Nat} (h : ∀ i, i < n → f i = 0) : S f n = 0 := by
  rw [S_congr (g := fun _ => (0 : R)) h, S_nil]
theorem S_swap (f : Nat → Nat → R) (m : Nat) : ∀ n, S (fun i => S (fun j => f i j) m) n = S (fun j => S (fun i => f i j) n) m
  | 0 => by
    rw [S_zero, S_eq0]; intro i _; rfl
  | n + 1 => by
    rw [S_succ, S_swap f m n, ← S_add]
    rfl
theorem S_left (f : Nat → R) : ∀ n, S f (n + 1) = f 0 + S (fun i => f (i + 1)) n
  | 0 => by simp only [S_succ, S_zero]; grind
  | n + 1 => by
    rw [S_succ, S_left f n, S_succ]; grind
/-- a sum of which one place alone counts -/
theorem S_one (f : Nat → R) (k : Nat) : ∀ n, k < n → (∀ i, i < n → i ≠ k → f i = 0) → S f n = f k
  | 0, h, _ => absurd h (Nat.not_lt_zero _)
  | n + 1, h, z => by
    rw [S_succ]
    by_cases e : k = n
    · subst e
      rw [S_eq0 fun i hi => z i (Nat.lt_succ_of_lt hi) (Nat.ne_of_lt hi)]; grind
    · rw [S_one f k n (by omega) fun i hi ne => z i (Nat.lt_succ_of_lt hi) ne, z n (Nat.lt_succ_self n) fun q => e q.symm]; grind
theorem S_if (f : Nat → R) (k n : Nat) (h : k < n) : S (fun i => if i = k then f i else 0) n = f k := by
  rw [S_one _ k n h]
  · simp
  · intro i _ ne; simp [ne]
/-- with a test that only k fits -/
theorem S_pick (f : Nat → R) (c : Nat → Prop) [DecidablePred c] (k n : Nat) (h : k < n) (hc : ∀ i, i < n → (c i ↔ i = k)) : S (fun i => if c i then f i else 0) n = f k := by
  rw [S_one _ k n h]
  · rw [if_pos ((hc k h).mpr rfl)]
  · intro i hi ne
    rw [if_neg fun q => ne ((hc i hi).mp q)]
theorem S_cut (f : Nat → R) (n : Nat) : ∀ m, (∀ i, n ≤ i → i < n + m → f i = 0) → S f (n + m) = S f n
  | 0, _ => rfl
  | m + 1, h => by
    rw [← Nat.add_assoc, S_succ, S_cut f n m (fun i a b => h i a (by omega)), h (n + m) (by omega) (by omega)]; grind
/-! ### powers -/
theorem pw_zero (x : R) : x ^ 0 = 1 := Semiring.pow_zero x
theorem pw_succ (x : R) (n : Nat) : x ^ (n + 1) = x ^ n * x := Semiring.pow_succ x n
theorem pw_add (x : R) (m : Nat) : ∀ n : Nat, x ^ (m + n) = x ^ m * x ^ n
  | 0 => by rw [Nat.add_zero, pw_zero]; grind
  | n + 1 => by rw [← Nat.add_assoc, pw_succ, pw_add x m n, pw_succ]; grind
theorem pw_one : ∀ n : Nat, (1 : R) ^ n = 1
  | 0 => pw_zero 1
  | n + 1 => by rw [pw_succ, pw_one n]; grind
theorem pw_mul (x : R) (m : Nat) : ∀ n : Nat, x ^ (m * n) = (x ^ m) ^ n
  | 0 => by rw [Nat.mul_zero, pw_zero, pw_zero]
  | n + 1 => by rw [Nat.mul_succ, pw_add, pw_mul x m n, pw_succ]
theorem pw_mulb (x y : R) : ∀ n : Nat, (x * y) ^ n = x ^ n * y ^ n
  | 0 => by rw [pw_zero, pw_zero, pw_zero]; grind
  | n + 1 => by rw [pw_succ, pw_mulb x y n, pw_succ, pw_succ]; grind
theorem pw_mod {x : R} {n : Nat} (h : x ^ n = 1) (m : Nat) : x ^ (m % n) = x ^ m := by
  have e := Nat.div_add_mod m n
  have q : x ^ m = x ^ (n * (m / n) + m % n) := by rw [e]
  rw [q, pw_add, pw_mul, h, pw_one]; grind
/-- the sum of a geometric row -/
theorem geo (x : R) : ∀ n : Nat, (x - 1) * S (fun j => x ^ j) n = x ^ n - 1
  | 0 => by rw [S_zero, pw_zero]; grind
  | n + 1 => by
    have ih := geo x n
    rw [S_succ, pw_succ]; grind
/-- a number of times 1 -/
def N (R : Type) [CommRing R] (n : Nat) : R := S (fun _ => (1 : R)) n
theorem N_succ (n : Nat) : N R (n + 1) = N R n + 1 := rfl
/-- no zero divisors -/
def Dom (R : Type) [CommRing R] : Prop := ∀ a b : R, a * b = 0 → a = 0 ∨ b = 0
theorem geo0 (D : Dom R) {x : R} {n : Nat} (h : x ^ n = 1) (h1 : x ≠ 1) : S (fun j => x ^ j) n = 0 := by
  have e := geo x n
  rw [h] at e
  have e' : (x - 1) * S (fun j => x ^ j) n = 0 := by rw [e]; grind
  rcases D _ _ e' with z | z
  · exact absurd (by grind) h1
  · exact z
theorem geo1 {x : R} (n : Nat) (h : x = 1) : S (fun j => x ^ j) n = N R n := by
  subst h
  exact S_congr fun i _ => pw_one i
/-! ### a root of a size -/
/-- w is of order n -/
structure Root (w : R) (n : Nat) : Prop where
  pos : 0 < n
  one : w ^ n = 1
  low : ∀ k, 0 < k → k < n → w ^ k ≠ 1
theorem Root.eq1 {w : R} {n : Nat} (h : Root w n) (k : Nat) : w ^ k = 1 ↔ k % n = 0 := by
  constructor
  · intro e
    rw [← pw_mod h.one] at e
    by_cases z : k % n = 0
    · exact z
    · exact absurd e (h.low _ (Nat.pos_of_ne_zero z) (Nat.mod_lt _ h.pos))
  · intro e
    rw [← pw_mod h.one, e, pw_zero]
theorem Root.inv {w wi : R} {n : Nat} (h : Root w n) (hi : w * wi = 1) : Root wi n := by
  have q : ∀ k : Nat, w ^ k * wi ^ k = 1 := fun k => by rw [← pw_mulb, hi, pw_one]
  refine ⟨h.pos, ?_, fun k a b e => h.low k a b ?_⟩
  · have z := q n
    rw [h.one] at z
    grind
  · have z := q k
    rw [e] at z
    grind
/-- orthogonality, with sums of exponents -/
theorem Root.orth (D : Dom R) {w : R} {n : Nat} (h : Root w n) (m : Nat) : S (fun j => w ^ (j * m)) n = if m % n = 0 then N R n else 0 := by
  have e : S (fun j => w ^ (j * m)) n = S (fun j => (w ^ m) ^ j) n := S_congr fun j _ => by rw [Nat.mul_comm, pw_mul]
  rw [e]
  by_cases z : m % n = 0
  · rw [if_pos z, geo1 n ((h.eq1 m).mpr z)]
  · rw [if_neg z]
    refine geo0 D ?_ fun q => z ((h.eq1 m).mp q)
    rw [← pw_mul, Nat.mul_comm, pw_mul, h.one, pw_one]
/-- w^a * wi^b with wi the inverse -/
theorem Root.inv_pow {w wi : R} {n : Nat} (h : Root w n) (hi : w * wi = 1) (b : Nat) (hb : b ≤ n) : wi ^ b = w ^ (n - b) := by
  have q : w ^ b * wi ^ b = 1 := by rw [← pw_mulb, hi, pw_one]
  have e : w ^ (n - b) * w ^ b = 1 := by rw [← pw_add, Nat.sub_add_cancel hb, h.one]
  grind
/-! ### the transform -/
def F (w : R) (n : Nat) (f : Nat → R) (k : Nat) : R := S (fun j => f j * w ^ (j * k)) n
theorem F_congr {w : R} {n : Nat} {f g : Nat → R} (h : ∀ i, i < n → f i = g i) (k : Nat) : F w n f k = F w n g k := S_congr fun i hi => by rw [h i hi]
/-- transformed twice -/
theorem F_F (D : Dom R) {w : R} {n : Nat} (h : Root w n) (f : Nat → R) (m : Nat) (hm : m < n) : F w n (F w n f) m = N R n * f ((n - m) % n) := by
  unfold F
  have e : S (fun k => S (fun j => f j * w ^ (j * k)) n * w ^ (k * m)) n = S (fun j => if j = (n - m) % n then f j * N R n else 0) n := by
    rw [S_congr (g := fun k => S (fun j => f j * w ^ (j * k) * w ^ (k * m)) n) fun k _ => by rw [S_mul_r], S_swap]
    refine S_congr fun j hj => ?_
    rw [S_congr (g := fun k => f j * w ^ (k * (j + m))) fun k _ => by
      rw [Semiring.mul_assoc, ← pw_add, Nat.mul_add, Nat.mul_comm j k], S_mul, h.orth D]
    by_cases z : (j + m) % n = 0
    · rw [if_pos z, if_pos]
      have hn := h.pos
      by_cases h0 : m = 0
      · subst h0
        rw [Nat.add_zero, Nat.mod_eq_of_lt hj] at z
        rw [Nat.sub_zero, Nat.mod_self]; exact z
      · rw [Nat.mod_eq_of_lt (by omega)]
        have a : j + m < 2 * n := by omega
        have b : j + m = n := by
          rcases Nat.lt_or_ge (j + m) n with q | q
          · rw [Nat.mod_eq_of_lt q] at z; omega
          · have : (j + m - n) % n = 0 := by rw [← Nat.mod_eq_sub_mod q]; exact z
            rw [Nat.mod_eq_of_lt (by omega)] at this; omega
        omega
    · rw [if_neg z, if_neg]
      · grind
      · intro q
        refine z ?_
        have hn := h.pos
        by_cases h0 : m = 0
        · subst h0
          rw [Nat.sub_zero, Nat.mod_self] at q
          subst q; simp
        · rw [Nat.mod_eq_of_lt (by omega)] at q
          rw [q, Nat.sub_add_cancel (by omega), Nat.mod_self]
  rw [e, S_if _ _ _ (Nat.mod_lt _ h.pos)]; grind
/-- at the inverse root -/
theorem F_inv {w wi : R} {n : Nat} (h : Root w n) (hi : w * wi = 1) (f : Nat → R) (k : Nat) (hk : k < n) : F wi n f k = F w n f ((n - k) % n) := by
  refine S_congr fun j _ => ?_
  have e : wi ^ (j * k) = w ^ (j * ((n - k) % n)) := by
    rw [Nat.mul_comm, pw_mul, h.inv_pow hi k (Nat.le_of_lt hk), ← pw_mul, Nat.mul_comm j, pw_mul w ((n - k) % n), pw_mod h.one, ← pw_mul]
  rw [e]
/-- there and back -/
theorem F_back (D : Dom R) {w wi : R} {n : Nat} (h : Root w n) (hi : w * wi = 1) (f : Nat → R) (m : Nat) (hm : m < n) : F wi n (F w n f) m = N R n * f m := by
  rw [F_inv h hi _ m hm, F_F D h _ _ (Nat.mod_lt _ h.pos)]
  have e : (n - (n - m) % n) % n = m := by
    by_cases h0 : m = 0
    · subst h0; simp
    · rw [Nat.mod_eq_of_lt (show n - m < n by omega), Nat.mod_eq_of_lt (by omega)]; omega
  rw [e]
/-! ### the ring product -/
def C (n : Nat) (f g : Nat → R) (k : Nat) : R := S (fun i => S (fun j => if (i + j) % n = k then f i * g j else 0) n) n
theorem C_comm (n : Nat) (f g : Nat → R) (k : Nat) : C n f g k = C n g f k := by
  unfold C
  rw [S_swap]
  refine S_congr fun j _ => S_congr fun i _ => ?_
  rw [Nat.add_comm i j]
  by_cases h : (j + i) % n = k
  · rw [if_pos h, if_pos h]; grind
  · rw [if_neg h, if_neg h]
theorem F_C {w : R} {n : Nat} (hn : 0 < n) (h : w ^ n = 1) (f g : Nat → R) (m : Nat) : F w n (C n f g) m = F w n f m * F w n g m := by
  unfold F C
  have e1 : S (fun k => S (fun i => S (fun j => if (i + j) % n = k then f i * g j else 0) n) n * w ^ (k * m)) n
      = S (fun i => S (fun j => f i * g j * w ^ ((i + j) * m)) n) n := by
    rw [S_congr (g := fun k => S (fun i => S (fun j => if (i + j) % n = k then f i * g j * w ^ (k * m) else 0) n) n) fun k _ => by
      rw [← S_mul_r]
      refine S_congr fun i _ => ?_
      rw [← S_mul_r]
      refine S_congr fun j _ => ?_
      by_cases h : (i + j) % n = k
      · rw [if_pos h, if_pos h]
      · rw [if_neg h, if_neg h]; grind]
    rw [S_swap]
    refine S_congr fun i _ => ?_
    rw [S_swap]
    refine S_congr fun j _ => ?_
    rw [S_pick (fun k => f i * g j * w ^ (k * m)) (fun k => (i + j) % n = k) ((i + j) % n) n (Nat.mod_lt _ hn) fun k _ => ⟨fun q => q.symm, fun q => q.symm⟩]
    show f i * g j * w ^ ((i + j) % n * m) = f i * g j * w ^ ((i + j) * m)
    rw [pw_mul w ((i + j) % n), pw_mod h, ← pw_mul]
  rw [e1, ← S_mul_r]
  refine S_congr fun i _ => ?_
  rw [← S_mul]
  refine S_congr fun j _ => ?_
  rw [Nat.add_mul, pw_add]; grind
/-- as the law reckons it: by the place that is left -/
theorem C_law {n : Nat} (f g : Nat → R) (k : Nat) (hk : k < n) (d : Nat → Nat) (hd : ∀ i, i < n → d i < n ∧ ∀ j, j < n → ((i + j) % n = k ↔ j = d i)) : C n f g k = S (fun i => f i * g (d i)) n := by
  unfold C
  refine S_congr fun i hi => ?_
  obtain ⟨a, b⟩ := hd i hi
  exact S_pick (fun j => f i * g j) (fun j => (i + j) % n = k) (d i) n a b
/-! ### sums of products of transforms -/
theorem parseval (D : Dom R) {w : R} {n : Nat} (h : Root w n) (f g : Nat → R) : S (fun k => F w n f k * F w n g k) n = N R n * S (fun i => f i * g ((n - i) % n)) n := by
  have e : S (fun k => F w n f k * F w n g k) n = S (fun i => f i * F w n (F w n g) i) n := by
    unfold F
    rw [S_congr (g := fun k => S (fun i => f i * (S (fun j => g j * w ^ (j * k)) n * w ^ (k * i))) n) fun k _ => by
      rw [← S_mul_r]
      refine S_congr fun i _ => ?_
      rw [Nat.mul_comm k i]; grind]
    rw [S_swap]
    refine S_congr fun i _ => ?_
    rw [S_mul]
  rw [e, ← S_mul]
  refine S_congr fun i hi => ?_
  rw [F_F D h g i hi]; grind
end
end Spm

namespace Spm
open Lean.Grind
section
variable {R : Type} [CommRing R]
/-! Rows as polynomials. -/
def ev : List R → R → R
  | [], _ => 0
  | c :: cs, x => c + x * ev cs x
theorem ev_S : ∀ (l : List R) (x : R), ev l x = S (fun j => l.getD j 0 * x ^ j) l.length
  | [], x => rfl
  | c :: cs, x => by
    show c + x * ev cs x = S _ (cs.length + 1)
    rw [S_left, ev_S cs x, ← S_mul, pw_zero]
    have e : S (fun i => x * (cs.getD i 0 * x ^ i)) cs.length = S (fun i => (c :: cs).getD (i + 1) 0 * x ^ (i + 1)) cs.length := S_congr fun i _ => by
      rw [pw_succ]; show x * (cs.getD i 0 * x ^ i) = cs.getD i 0 * (x ^ i * x); grind
    rw [e]
    show c + _ = c * 1 + _
    grind
/-- the row that is left when x - a is taken out -/
def qd (a : R) : List R → List R
  | [] => []
  | [_] => []
  | _ :: c :: cs => ev (c :: cs) a :: qd a (c :: cs)
theorem qd_len (a : R) : ∀ l : List R, (qd a l).length = l.length - 1
  | [] => rfl
  | [_] => rfl
  | _ :: c :: cs => by
    show (qd a (c :: cs)).length + 1 = _
    rw [qd_len a (c :: cs)]; rfl
theorem qd_ev (a x : R) : ∀ l : List R, ev l x = ev l a + (x - a) * ev (qd a l) x
  | [] => by simp only [ev, qd]; grind
  | [c] => by simp only [ev, qd]; grind
  | b :: c :: cs => by
    have ih := qd_ev a x (c :: cs)
    show b + x * ev (c :: cs) x = b + a * ev (c :: cs) a + (x - a) * (ev (c :: cs) a + x * ev (qd a (c :: cs)) x)
    rw [ih]; grind
theorem qd_zero (a : R) : ∀ l : List R, (∀ c ∈ qd a l, c = 0) → ev l a = 0 → ∀ c ∈ l, c = 0
  | [], _, _ => by simp
  | [c], _, h => by
    intro d hd
    have e : d = c := by simpa using hd
    subst e
    simp only [ev] at h; grind
  | b :: c :: cs, h, h0 => by
    have h1 : ev (c :: cs) a = 0 := h _ (List.mem_cons_self ..)
    have ih := qd_zero a (c :: cs) (fun d hd => h d (List.mem_cons_of_mem _ hd)) h1
    have hb : b + a * ev (c :: cs) a = 0 := h0
    intro d hd
    rcases List.mem_cons.mp hd with e | e
    · subst e; rw [h1] at hb; grind
    · exact ih d e
/-- a row with as many worths 0 at unlike places as it has numbers is 0 -/
theorem ev_zero (D : Dom R) : ∀ (xs l : List R), l.length ≤ xs.length → xs.Nodup → (∀ x ∈ xs, ev l x = 0) → ∀ c ∈ l, c = 0
  | [], l, hl, _, _ => by
    have : l = [] := List.length_eq_zero_iff.mp (by simpa using hl)
    subst this; simp
  | a :: xs, l, hl, nd, h => by
    have ha := h a (List.mem_cons_self ..)
    refine qd_zero a l (ev_zero D xs (qd a l) (by rw [qd_len]; simp at hl; omega) (List.nodup_cons.mp nd).2 fun x hx => ?_) ha
    have e := qd_ev a x l
    rw [h x (List.mem_cons_of_mem _ hx), ha] at e
    have e' : (x - a) * ev (qd a l) x = 0 := by grind
    rcases D _ _ e' with z | z
    · exfalso
      have : x = a := by grind
      subst this
      exact (List.nodup_cons.mp nd).1 hx
    · exact z
theorem ev_sub : ∀ (l m : List R) (x : R), l.length = m.length → ev (List.zipWith (· - ·) l m) x = ev l x - ev m x
  | [], [], x, _ => by simp only [List.zipWith_nil_left, ev]; grind
  | [], _ :: _, _, h => by simp at h
  | _ :: _, [], _, h => by simp at h
  | a :: l, b :: m, x, h => by
    have ih := ev_sub l m x (by simpa using h)
    show (a - b) + x * ev (List.zipWith (· - ·) l m) x = (a + x * ev l x) - (b + x * ev m x)
    rw [ih]; grind
theorem zip_eq : ∀ (l m : List R), l.length = m.length → (∀ c ∈ List.zipWith (· - ·) l m, c = 0) → l = m
  | [], [], _, _ => rfl
  | [], _ :: _, h, _ => by simp at h
  | _ :: _, [], h, _ => by simp at h
  | a :: l, b :: m, h, z => by
    have h1 : a - b = 0 := z _ (List.mem_cons_self ..)
    have ih := zip_eq l m (by simpa using h) fun c hc => z c (List.mem_cons_of_mem _ hc)
    rw [ih]
    have : a = b := by grind
    rw [this]
/-- two rows of one length with the same worths at so many unlike places are one -/
theorem ev_eq (D : Dom R) {xs l m : List R} (h1 : l.length = xs.length) (h2 : m.length = xs.length) (nd : xs.Nodup) (h : ∀ x ∈ xs, ev l x = ev m x) : l = m := by
  have e := h1.trans h2.symm
  refine zip_eq l m e (ev_zero D xs _ (by rw [List.length_zipWith, h1, h2, Nat.min_self]; exact Nat.le_refl _) nd fun x hx => ?_)
  rw [ev_sub l m x e, h x hx]; grind
/-! ### the plain product -/
def P (n m : Nat) (f g : Nat → R) (k : Nat) : R := S (fun i => S (fun j => if i + j = k then f i * g j else 0) m) n
theorem P_comm (n m : Nat) (f g : Nat → R) (k : Nat) : P n m f g k = P m n g f k := by
  unfold P
  rw [S_swap]
  refine S_congr fun j _ => S_congr fun i _ => ?_
  rw [Nat.add_comm i j]
  by_cases h : j + i = k
  · rw [if_pos h, if_pos h]; grind
  · rw [if_neg h, if_neg h]
theorem P_ev {n m L : Nat} (hL : ∀ i j, i < n → j < m → i + j < L) (f g : Nat → R) (x : R) :
    S (fun k => P n m f g k * x ^ k) L = S (fun i => f i * x ^ i) n * S (fun j => g j * x ^ j) m := by
  have e1 : S (fun k => P n m f g k * x ^ k) L = S (fun i => S (fun j => f i * g j * x ^ (i + j)) m) n := by
    unfold P
    rw [S_congr (g := fun k => S (fun i => S (fun j => if i + j = k then f i * g j * x ^ k else 0) m) n) fun k _ => by
      rw [← S_mul_r]
      refine S_congr fun i _ => ?_
      rw [← S_mul_r]
      refine S_congr fun j _ => ?_
      by_cases h : i + j = k
      · rw [if_pos h, if_pos h]
      · rw [if_neg h, if_neg h]; grind]
    rw [S_swap]
    refine S_congr fun i hi => ?_
    rw [S_swap]
    refine S_congr fun j hj => ?_
    exact S_pick (fun k => f i * g j * x ^ k) (fun k => i + j = k) (i + j) L (hL i j hi hj) fun k _ => ⟨fun q => q.symm, fun q => q.symm⟩
  rw [e1, ← S_mul_r]
  refine S_congr fun i _ => ?_
  rw [← S_mul]
  refine S_congr fun j _ => ?_
  rw [pw_add]; grind
/-- the ring product by the plain one -/
theorem C_P {n L : Nat} (hL : ∀ i j, i < n → j < n → i + j < L) (f g : Nat → R) (k : Nat) : C n f g k = S (fun m => if m % n = k then P n n f g m else 0) L := by
  have e : S (fun m => if m % n = k then P n n f g m else 0) L = S (fun m => S (fun i => S (fun j => if i + j = m then (if m % n = k then f i * g j else 0) else 0) n) n) L := S_congr fun m _ => by
    by_cases h : m % n = k
    · rw [if_pos h]
      refine S_congr fun i _ => S_congr fun j _ => ?_
      rw [if_pos h]
    · rw [if_neg h, S_eq0]
      intro i _
      refine S_eq0 fun j _ => ?_
      rw [if_neg h]; split <;> rfl
  rw [e, S_swap]
  refine S_congr fun i hi => ?_
  rw [S_swap]
  refine S_congr fun j hj => ?_
  rw [S_pick (fun m => if m % n = k then f i * g j else 0) (fun m => i + j = m) (i + j) L (hL i j hi hj) fun k _ => ⟨fun q => q.symm, fun q => q.symm⟩]
end
end Spm

namespace Spm
/-- not told apart by a part below 32 -/
def sf (n : Nat) : Bool := (List.range 32).all fun d => Nat.ble d 1 || Nat.ble n d || !(Nat.beq (n % d) 0)
def flB (p : Nat) : Bool := (List.range p).all fun a => Nat.beq a 0 || Nat.beq (a ^ (p - 1) % p) 1
def goB (p g : Nat) : Nat → Nat → Bool
  | 0, _ => true
  | n + 1, h => !(Nat.beq h 1) && goB p g n (h * g % p)
def gens : List (Nat × Nat) := [(2, 1), (3, 2), (5, 2), (7, 3), (11, 2), (13, 2), (17, 3), (19, 2), (23, 5), (29, 2), (31, 3), (37, 2), (41, 6), (43, 3), (47, 5), (53, 2), (59, 2), (61, 2), (67, 2), (71, 7), (73, 5), (79, 3), (83, 2), (89, 3), (97, 5), (101, 2), (103, 5), (107, 2), (109, 6), (113, 3), (127, 3), (131, 2), (137, 3), (139, 2), (149, 2), (151, 6), (157, 5), (163, 2), (167, 5), (173, 2), (179, 2), (181, 2), (191, 19), (193, 5), (197, 2), (199, 3), (211, 2), (223, 3), (227, 2), (229, 6), (233, 3), (239, 7), (241, 7), (251, 6), (257, 3), (263, 5), (269, 2), (271, 6), (277, 5), (281, 3), (283, 3), (293, 2), (307, 5), (311, 17), (313, 10), (317, 2), (331, 3), (337, 10), (347, 2), (349, 2), (353, 3), (359, 7), (367, 6), (373, 2), (379, 2), (383, 5), (389, 2), (397, 5), (401, 3), (409, 21), (419, 2), (421, 2), (431, 7), (433, 5), (439, 15), (443, 2), (449, 3), (457, 13), (461, 2), (463, 3), (467, 2), (479, 13), (487, 3), (491, 2), (499, 7), (503, 5), (509, 2), (521, 3), (523, 2), (541, 2), (547, 2), (557, 2), (563, 2), (569, 3), (571, 3), (577, 5), (587, 2), (593, 3), (599, 7), (601, 7), (607, 3), (613, 2), (617, 3), (619, 2), (631, 3), (641, 3), (643, 11), (647, 5), (653, 2), (659, 2), (661, 2), (673, 5), (677, 2), (683, 5), (691, 3), (701, 2), (709, 2), (719, 11), (727, 5), (733, 6), (739, 3), (743, 5), (751, 3), (757, 2), (761, 6), (769, 11), (773, 2), (787, 2), (797, 2), (809, 3), (811, 3), (821, 2), (823, 3), (827, 2), (829, 2), (839, 11), (853, 2), (857, 3), (859, 2), (863, 5), (877, 2), (881, 3), (883, 2), (887, 5), (907, 2), (911, 17), (919, 7), (929, 3), (937, 5), (941, 2), (947, 2), (953, 3), (967, 5), (971, 6), (977, 3), (983, 5), (991, 6), (997, 7)]
def gOf (n : Nat) : List (Nat × Nat) → Nat
  | [] => 0
  | x :: r => bif Nat.beq x.1 n then x.2 else gOf n r
def goodB (n : Nat) : Bool := flB n && (goB n (gOf n gens) (n - 2) (gOf n gens) && (Nat.ble 1 (gOf n gens) && Nat.blt (gOf n gens) n))
def allB : Bool := (List.range 998).all fun n => Nat.ble n 1 || !(sf n) || goodB n
theorem all_true : allB = true := by decide +kernel
end Spm

namespace Spm
open Lean.Grind
/-! ### what a prime to 997 is known by -/
structure Good (p : Nat) : Prop where
  two : 2 ≤ p
  le : p ≤ 997
  fl : ∀ a : Nat, 0 < a → a < p → a ^ (p - 1) % p = 1
  gen : ∃ g : Nat, 0 < g ∧ g < p ∧ ∀ k : Nat, 0 < k → k < p - 1 → g ^ k % p ≠ 1
theorem goB_ok {p g : Nat} : ∀ (n h : Nat), h < p → goB p g n h = true → ∀ k, k < n → (h * g ^ k) % p ≠ 1
  | 0, _, _, _, k, hk => absurd hk (Nat.not_lt_zero _)
  | n + 1, h, hp, e, k, hk => by
    have e' : ((!(Nat.beq h 1)) && goB p g n (h * g % p)) = true := e
    rw [Bool.and_eq_true] at e'
    obtain ⟨e1, e2⟩ := e'
    cases k with
    | zero =>
      rw [Nat.pow_zero, Nat.mul_one, Nat.mod_eq_of_lt hp]
      intro q; rw [q] at e1; exact absurd e1 (by decide)
    | succ k =>
      have ih := goB_ok n (h * g % p) (Nat.mod_lt _ (by omega)) e2 k (by omega)
      rw [Nat.pow_succ, Nat.mul_comm (g ^ k) g, ← Nat.mul_assoc, Nat.mul_mod, ← Nat.mod_mod (h * g), ← Nat.mul_mod]
      exact ih
/-- no part below 32 -/
def SF (n : Nat) : Prop := 2 ≤ n ∧ n ≤ 997 ∧ ∀ d : Nat, 2 ≤ d → d < 32 → d < n → n % d ≠ 0
theorem good_of {n : Nat} (h : SF n) : Good n := by
  obtain ⟨h2, h3, h4⟩ := h
  have e : sf n = true := by
    refine List.all_eq_true.mpr fun d hd => ?_
    have hd' := List.mem_range.mp hd
    by_cases a : d ≤ 1
    · have := Nat.ble_eq.mpr a; simp [this]
    · by_cases b : n ≤ d
      · have := Nat.ble_eq.mpr b; simp [this]
      · have z := h4 d (by omega) hd' (by omega)
        have : Nat.beq (n % d) 0 = false := by
          cases q : Nat.beq (n % d) 0 with
          | false => rfl
          | true => exact absurd (Nat.eq_of_beq_eq_true q) z
        simp [this]
  have t := List.all_eq_true.mp all_true n (List.mem_range.mpr (by omega))
  rw [e] at t
  have n1 : Nat.ble n 1 = false := by
    cases q : Nat.ble n 1 with
    | false => rfl
    | true => exact absurd (Nat.ble_eq.mp q) (by omega)
  rw [n1] at t
  simp only [Bool.not_true, Bool.false_or] at t
  unfold goodB at t
  simp only [Bool.and_eq_true] at t
  obtain ⟨f, g, g1, g2⟩ := t
  refine ⟨h2, h3, fun a a0 ap => ?_, gOf n gens, Nat.ble_eq.mp g1, ?_, fun k k0 kn => ?_⟩
  · have q := List.all_eq_true.mp f a (List.mem_range.mpr ap)
    have z : Nat.beq a 0 = false := by
      cases q : Nat.beq a 0 with
      | false => rfl
      | true => exact absurd (Nat.eq_of_beq_eq_true q) (by omega)
    rw [z, Bool.false_or] at q
    exact Nat.eq_of_beq_eq_true q
  · exact Nat.ble_eq.mp g2
  · have q := goB_ok _ _ (Nat.ble_eq.mp g2) g (k - 1) (by omega)
    have : gOf n gens * gOf n gens ^ (k - 1) = gOf n gens ^ k := by
      rw [Nat.mul_comm, ← Nat.pow_succ]; congr 1; omega
    rw [this] at q
    exact q
/-! ### rests -/
/-- the way from the whole numbers to the rests by p -/
structure Hom (p : Nat) (R : Type) [CommRing R] where
  ph : Int → R
  add : ∀ a b, ph (a + b) = ph a + ph b
  mul : ∀ a b, ph (a * b) = ph a * ph b
  one : ph 1 = 1
  inj : ∀ a b, ph a = ph b ↔ a % (p : Int) = b % (p : Int)
  sur : ∀ x : R, ∃ a : Int, 0 ≤ a ∧ a < (p : Int) ∧ ph a = x
def fhom (p : Nat) [NeZero p] : Hom p (Fin p) where
  ph := fun x => ⟨(x % (p : Int)).toNat, by
    have h0 : (p : Int) ≠ 0 := by have := NeZero.ne p; omega
    have h1 := Int.emod_nonneg x h0
    have h2 := Int.emod_lt_of_pos x (show (0 : Int) < p by have := NeZero.ne p; omega)
    omega⟩
  add := fun a b => by
    have h0 : (p : Int) ≠ 0 := by have := NeZero.ne p; omega
    refine Fin.ext ?_
    show ((a + b) % (p : Int)).toNat = ((a % (p : Int)).toNat + (b % (p : Int)).toNat) % p
    refine Int.ofNat.inj ?_
    show (((a + b) % (p : Int)).toNat : Int) = (((a % (p : Int)).toNat + (b % (p : Int)).toNat) % p : Nat)
    rw [Int.toNat_of_nonneg (Int.emod_nonneg _ h0), Int.natCast_emod, Int.natCast_add, Int.toNat_of_nonneg (Int.emod_nonneg _ h0), Int.toNat_of_nonneg (Int.emod_nonneg _ h0), ← Int.add_emod]
  mul := fun a b => by
    have h0 : (p : Int) ≠ 0 := by have := NeZero.ne p; omega
    refine Fin.ext ?_
    show ((a * b) % (p : Int)).toNat = ((a % (p : Int)).toNat * (b % (p : Int)).toNat) % p
    refine Int.ofNat.inj ?_
    show (((a * b) % (p : Int)).toNat : Int) = (((a % (p : Int)).toNat * (b % (p : Int)).toNat) % p : Nat)
    rw [Int.toNat_of_nonneg (Int.emod_nonneg _ h0), Int.natCast_emod, Int.natCast_mul, Int.toNat_of_nonneg (Int.emod_nonneg _ h0), Int.toNat_of_nonneg (Int.emod_nonneg _ h0), ← Int.mul_emod]
  one := by
    have h0 : (p : Int) ≠ 0 := by have := NeZero.ne p; omega
    refine Fin.ext ?_
    show ((1 : Int) % (p : Int)).toNat = 1 % p
    refine Int.ofNat.inj ?_
    show (((1 : Int) % (p : Int)).toNat : Int) = ((1 % p : Nat) : Int)
    rw [Int.toNat_of_nonneg (Int.emod_nonneg _ h0), Int.natCast_emod]; rfl
  inj := fun a b => by
    have h0 : (p : Int) ≠ 0 := by have := NeZero.ne p; omega
    have h1 := Int.emod_nonneg a h0
    have h2 := Int.emod_nonneg b h0
    constructor
    · intro h
      have := Fin.mk.inj h
      omega
    · intro h
      refine Fin.ext ?_
      show (a % (p : Int)).toNat = (b % (p : Int)).toNat
      rw [h]
  sur := fun x => ⟨(x.val : Int), by omega, by have := x.isLt; omega, by
    refine Fin.ext ?_
    show (((x.val : Int)) % (p : Int)).toNat = x.val
    have e : ((x.val : Int)) % (p : Int) = x.val := Int.emod_eq_of_lt (by omega) (by have := x.isLt; omega)
    rw [e]; rfl⟩
section
variable {p : Nat} {R : Type} [CommRing R] (h : Hom p R)
namespace Hom
theorem zero : h.ph 0 = 0 := by
  have e := h.add 0 0
  have e' : h.ph (0 + 0) = h.ph 0 := rfl
  rw [e'] at e; grind
theorem neg (a : Int) : h.ph (-a) = - h.ph a := by
  have e := h.add a (-a)
  rw [show a + -a = 0 by omega, h.zero] at e; grind
theorem sub (a b : Int) : h.ph (a - b) = h.ph a - h.ph b := by
  rw [Int.sub_eq_add_neg, h.add, h.neg]; grind
theorem mod (a : Int) : h.ph (a % (p : Int)) = h.ph a := (h.inj _ _).mpr (Int.emod_emod_of_dvd _ (Int.dvd_refl _))
theorem pow (a : Int) (n : Nat) : h.ph (a ^ n) = h.ph a ^ n := by
  induction n with
  | zero => rw [Int.pow_zero, pw_zero, h.one]
  | succ n ih => rw [Int.pow_succ, h.mul, ih, pw_succ]
theorem S (f : Nat → Int) (n : Nat) : h.ph (Spm.S f n) = Spm.S (fun i => h.ph (f i)) n := by
  induction n with
  | zero => exact h.zero
  | succ n ih => rw [S_succ, h.add, ih]; rfl
theorem N (n : Nat) : h.ph (n : Int) = Spm.N R n := by
  induction n with
  | zero => exact h.zero
  | succ n ih => rw [show ((n + 1 : Nat) : Int) = (n : Int) + 1 from rfl, h.add, ih, h.one, N_succ]
theorem eq {a b : Int} (ha : 0 ≤ a ∧ a < p) (hb : 0 ≤ b ∧ b < p) (e : h.ph a = h.ph b) : a = b := by
  have q := (h.inj _ _).mp e
  rwa [Int.emod_eq_of_lt ha.1 ha.2, Int.emod_eq_of_lt hb.1 hb.2] at q
theorem ne0 {a : Int} (ha : 0 ≤ a ∧ a < p) : h.ph a = 0 ↔ a = 0 := by
  constructor
  · intro e
    rw [← h.zero] at e
    exact h.eq ha ⟨Int.le_refl _, by omega⟩ e
  · intro e; rw [e, h.zero]
theorem is1 (hp : 2 ≤ p) (a : Int) : h.ph a = 1 ↔ a % (p : Int) = 1 := by
  rw [← h.one, h.inj, Int.emod_eq_of_lt (show (0 : Int) ≤ 1 by omega) (by omega)]
end Hom
/-- Fermat, over the whole numbers -/
theorem Good.flI {p : Nat} (G : Good p) {a : Int} (h0 : 0 < a) (h1 : a < p) : a ^ (p - 1) % (p : Int) = 1 := by
  have e := G.fl a.toNat (by omega) (by omega)
  have q : ((a.toNat ^ (p - 1) % p : Nat) : Int) = ((1 : Nat) : Int) := by rw [e]
  rw [Int.natCast_emod, Int.natCast_pow, Int.toNat_of_nonneg (by omega)] at q
  exact q
theorem Good.flR {p : Nat} {R : Type} [CommRing R] (G : Good p) (h : Hom p R) (x : R) (hx : x ≠ 0) : x ^ (p - 1) = 1 := by
  obtain ⟨a, a0, a1, rfl⟩ := h.sur x
  have : a ≠ 0 := fun e => hx (by rw [e, h.zero])
  rw [← h.pow, h.is1 G.two]
  exact G.flI (by omega) a1
theorem Good.invR {p : Nat} {R : Type} [CommRing R] (G : Good p) (h : Hom p R) (x : R) (hx : x ≠ 0) : x * x ^ (p - 2) = 1 := by
  have e := G.flR h x hx
  have : p - 1 = (p - 2) + 1 := by have := G.two; omega
  rw [this, pw_succ] at e; grind
theorem Good.dom {p : Nat} {R : Type} [CommRing R] (G : Good p) (h : Hom p R) : Dom R := fun a b e => by
  by_cases ha : a = 0
  · exact .inl ha
  · right
    have q := G.invR h a ha
    have : b = (a * a ^ (p - 2)) * b := by rw [q]; grind
    grind
end
/-! ### orders -/
/-- n is the order of a by p -/
structure Ord (p : Nat) (a : Int) (n : Nat) : Prop where
  pos : 0 < n
  one : a ^ n % (p : Int) = 1
  low : ∀ k : Nat, 0 < k → k < n → a ^ k % (p : Int) ≠ 1
theorem Ord.uniq {p : Nat} {a : Int} {n m : Nat} (h : Ord p a n) (k : Ord p a m) : n = m := by
  rcases Nat.lt_trichotomy n m with q | q | q
  · exact absurd h.one (k.low n h.pos q)
  · exact q
  · exact absurd k.one (h.low m k.pos q)
theorem Ord.root {p : Nat} {R : Type} [CommRing R] (h : Hom p R) (hp : 2 ≤ p) {a : Int} {n : Nat} (o : Ord p a n) : Root (h.ph a) n :=
  ⟨o.pos, by rw [← h.pow, h.is1 hp]; exact o.one, fun k k0 kn => by
    rw [← h.pow, ne_eq, h.is1 hp]
    exact o.low k k0 kn⟩
theorem Ord.of_root {p : Nat} {R : Type} [CommRing R] (h : Hom p R) (hp : 2 ≤ p) {a : Int} {n : Nat} (o : Root (h.ph a) n) : Ord p a n :=
  ⟨o.pos, by rw [← h.is1 hp, h.pow]; exact o.one, fun k k0 kn => by
    rw [ne_eq, ← h.is1 hp, h.pow]
    exact o.low k k0 kn⟩
theorem Ord.mod {p : Nat} (hp : 2 ≤ p) {a : Int} {n : Nat} (o : Ord p (a % (p : Int)) n) : Ord p a n := by
  haveI : NeZero p := ⟨by omega⟩
  refine .of_root (fhom p) hp ?_
  have q := o.root (fhom p) hp
  rwa [(fhom p).mod] at q
/-- each rest above 0 has an order that goes into the prime less one: here, that it has one, to it -/
theorem Good.has_ord {p : Nat} (G : Good p) {a : Int} (h0 : 0 < a) (h1 : a < p) : ∃ n, n ≤ p - 1 ∧ Ord p a n := by
  have e := G.flI h0 h1
  have hp := G.two
  have step : ∀ m : Nat, m ≤ p - 1 → (∃ n, n ≤ m ∧ Ord p a n) ∨ ∀ k : Nat, 0 < k → k ≤ m → a ^ k % (p : Int) ≠ 1 := by
    intro m
    induction m with
    | zero => intro _; right; intro k a b; omega
    | succ m ih =>
      intro hm
      rcases ih (by omega) with ⟨n, a, b⟩ | q
      · exact .inl ⟨n, by omega, b⟩
      · by_cases z : a ^ (m + 1) % (p : Int) = 1
        · exact .inl ⟨m + 1, Nat.le_refl _, by omega, z, fun k k0 kn => q k k0 (by omega)⟩
        · right
          intro k k0 kn
          by_cases e : k = m + 1
          · subst e; exact z
          · exact q k k0 (by omega)
  rcases step (p - 1) (Nat.le_refl _) with q | q
  · exact q
  · exact absurd e (q (p - 1) (by omega) (Nat.le_refl _))
theorem Good.ord_dvd {p : Nat} (G : Good p) {a : Int} (h0 : 0 < a) (h1 : a < p) {n : Nat} (o : Ord p a n) : (p - 1) % n = 0 := by
  haveI : NeZero p := ⟨by have := G.two; omega⟩
  have r := o.root (fhom p) G.two
  refine (r.eq1 (p - 1)).mp ?_
  rw [← (fhom p).pow, (fhom p).is1 G.two]
  exact G.flI h0 h1
/-- a root of each size that goes into the prime less one -/
theorem Good.has_root {p : Nat} (G : Good p) : ∃ g : Int, 0 < g ∧ g < p ∧ ∀ s m : Nat, s * m = p - 1 → Ord p (g ^ m % (p : Int)) s := by
  obtain ⟨g, g0, g1, gk⟩ := G.gen
  have hp := G.two
  haveI : NeZero p := ⟨by omega⟩
  refine ⟨(g : Int), by omega, by omega, fun s m e => ?_⟩
  have hs : 0 < s := by
    rcases Nat.eq_zero_or_pos s with q | q
    · subst q; omega
    · exact q
  have hm : 0 < m := by
    rcases Nat.eq_zero_or_pos m with q | q
    · subst q; omega
    · exact q
  refine .of_root (fhom p) hp ?_
  rw [(fhom p).mod, (fhom p).pow]
  refine ⟨hs, ?_, fun k k0 ks => ?_⟩
  · rw [← pw_mul, Nat.mul_comm, e, ← (fhom p).pow, (fhom p).is1 hp]
    exact G.flI (by omega) (by omega)
  · rw [← pw_mul, ← (fhom p).pow, ne_eq, (fhom p).is1 hp]
    have lt : m * k < p - 1 := by
      rw [← e, Nat.mul_comm]
      exact Nat.mul_lt_mul_of_pos_right ks hm
    have q := gk (m * k) (Nat.mul_pos hm k0) lt
    intro z
    apply q
    refine Int.ofNat.inj ?_
    show ((g ^ (m * k) % p : Nat) : Int) = ((1 : Nat) : Int)
    rw [Int.natCast_emod, Int.natCast_pow]; exact z
end Spm

namespace Spm
open Lean.Grind
/-! What the program's defs reckon, over the whole numbers. -/
/-- the worth of a row at x by p -/
def hor (p : Nat) (row : List Int) (x : Int) : Int := row.foldr (fun c a => (a * x + c) % (p : Int)) 0
theorem hor_cons (p : Nat) (c : Int) (row : List Int) (x : Int) : hor p (c :: row) x = (hor p row x * x + c) % (p : Int) := rfl
theorem hor_nil (p : Nat) (x : Int) : hor p [] x = 0 := rfl
theorem hor_bd {p : Nat} (hp : 0 < p) (row : List Int) (x : Int) : 0 ≤ hor p row x ∧ hor p row x < p := by
  cases row with
  | nil => exact ⟨Int.le_refl _, by show (0 : Int) < p; omega⟩
  | cons c row =>
    rw [hor_cons]
    exact ⟨Int.emod_nonneg _ (by omega), Int.emod_lt_of_pos _ (by omega)⟩
theorem hor_drop {p : Nat} {row : List Int} {x z : Int} {i : Nat} (hi : i < row.length) (h : row[row.length - 1 - i]? = some z) :
    hor p (row.drop (row.length - (i + 1))) x = (hor p (row.drop (row.length - i)) x * x + z) % (p : Int) := by
  have e1 : row.length - (i + 1) = row.length - 1 - i := by omega
  have e2 : row.length - i = row.length - 1 - i + 1 := by omega
  rw [e1, e2]
  obtain ⟨hl, e⟩ := List.getElem?_eq_some_iff.mp h
  rw [List.drop_eq_getElem_cons hl, e, hor_cons]
theorem hor_ph {p : Nat} {R : Type} [CommRing R] (h : Hom p R) (x : Int) : ∀ row : List Int, h.ph (hor p row x) = ev (row.map h.ph) (h.ph x)
  | [] => h.zero
  | c :: row => by
    rw [hor_cons, h.mod, h.add, h.mul, hor_ph h x row]
    show ev (row.map h.ph) (h.ph x) * h.ph x + h.ph c = h.ph c + h.ph x * ev (row.map h.ph) (h.ph x)
    grind
/-- a number's power by p -/
def pwm (p : Nat) (a : Int) (n : Nat) : Int := a ^ n % (p : Int)
theorem pwm_bd {p : Nat} (hp : 0 < p) (a : Int) (n : Nat) : 0 ≤ pwm p a n ∧ pwm p a n < p :=
  ⟨Int.emod_nonneg _ (by omega), Int.emod_lt_of_pos _ (by omega)⟩
theorem pwm_ph {p : Nat} {R : Type} [CommRing R] (h : Hom p R) (a : Int) (n : Nat) : h.ph (pwm p a n) = h.ph a ^ n := by
  unfold pwm
  rw [h.mod, h.pow]
theorem nz {p : Nat} (hp : 0 < p) : NeZero p := ⟨by omega⟩
/-- one turn of the quick power: an odd number of times -/
theorem quick_odd {p : Nat} (hp : 0 < p) {f b e : Int} {q n : Nat} {a : Int} (hq : e.toNat = 2 * q + 1) (h : (f * b ^ e.toNat) % (p : Int) = a ^ n % (p : Int)) :
    ((f * b % (p : Int)) * (b * b % (p : Int)) ^ q) % (p : Int) = a ^ n % (p : Int) := by
  haveI := nz hp
  rw [← h]
  refine ((fhom p).inj _ _).mp ?_
  rw [(fhom p).mul, (fhom p).mod, (fhom p).mul, (fhom p).pow, (fhom p).mod, (fhom p).mul, (fhom p).mul, (fhom p).pow, hq, pw_succ, Nat.mul_comm, pw_mul, pw_mulb, ← pw_mul, Nat.mul_comm q 2, pw_mul]
  have e2 : (fhom p).ph b ^ 2 = (fhom p).ph b * (fhom p).ph b := by rw [show (2 : Nat) = 1 + 1 from rfl, pw_succ, show (1 : Nat) = 0 + 1 from rfl, pw_succ, pw_zero]; grind
  rw [← pw_mulb, ← e2]
  grind
theorem quick_even {p : Nat} (hp : 0 < p) {f b e : Int} {q n : Nat} {a : Int} (hq : e.toNat = 2 * q) (h : (f * b ^ e.toNat) % (p : Int) = a ^ n % (p : Int)) :
    (f * (b * b % (p : Int)) ^ q) % (p : Int) = a ^ n % (p : Int) := by
  haveI := nz hp
  rw [← h]
  refine ((fhom p).inj _ _).mp ?_
  rw [(fhom p).mul, (fhom p).pow, (fhom p).mod, (fhom p).mul, (fhom p).mul, (fhom p).pow, hq, pw_mul]
  have e2 : (fhom p).ph b ^ 2 = (fhom p).ph b * (fhom p).ph b := by rw [show (2 : Nat) = 1 + 1 from rfl, pw_succ, show (1 : Nat) = 0 + 1 from rfl, pw_succ, pw_zero]; grind
  rw [e2]
/-- one factor more -/
theorem pwm_succ {p : Nat} (a : Int) (n : Nat) : pwm p a (n + 1) = pwm p a n * a % (p : Int) := by
  unfold pwm
  rw [Int.pow_succ, Int.mul_emod, Int.mul_emod (a ^ n % (p : Int)) a, Int.emod_emod_of_dvd _ (Int.dvd_refl _)]
/-- the inverse by p -/
def inv (p : Nat) (a : Int) : Int := pwm p a (p - 2)
/-- the numbers of a row's transform: its worths at the root's powers -/
def spn (p : Nat) (root : Int) (row : List Int) : List Int := (List.range row.length).map fun k => hor p row (pwm p root k)
end Spm

namespace Spm
open Lean.Grind
/-! Plain and ring products as lists of whole numbers, reckoned place by place. -/
/-- the number at a place -/
def at0 (l : List Int) (i : Nat) : Int := l.getD i 0
theorem at0_of {l : List Int} {i : Nat} {z : Int} (h : l[i]? = some z) : at0 l i = z := by
  unfold at0
  rw [List.getD_eq_getElem?_getD, h]
  rfl
theorem at0_get {l : List Int} {i : Nat} (h : i < l.length) : l[i]? = some (at0 l i) := by
  rw [List.getElem?_eq_getElem h]
  exact congrArg some (at0_of (List.getElem?_eq_getElem h)).symm
theorem at0_map {f : Nat → Int} {n i : Nat} (h : i < n) : at0 ((List.range n).map f) i = f i := by
  refine at0_of ?_
  rw [List.getElem?_map, List.getElem?_range h]
  rfl
/-- the sum of the products that were added at place k when rows 0 .. i - 1 are done and of row i the places below j -/
def part (A B : List Int) (i j k : Nat) : Int :=
  S (fun i' => S (fun j' => if i' + j' = k then at0 A i' * at0 B j' else 0) B.length) i + S (fun j' => if i + j' = k then at0 A i * at0 B j' else 0) j
def partL (p : Nat) (A B : List Int) (i j : Nat) : List Int := (List.range (A.length + B.length - 1)).map fun k => part A B i j k % (p : Int)
/-- the plain product -/
def mulL (p : Nat) (A B : List Int) : List Int := (List.range (A.length + B.length - 1)).map fun k => P A.length B.length (at0 A) (at0 B) k % (p : Int)
theorem partL_len (p : Nat) (A B : List Int) (i j : Nat) : (partL p A B i j).length = A.length + B.length - 1 := by
  unfold partL
  rw [List.length_map, List.length_range]
theorem mulL_len (p : Nat) (A B : List Int) : (mulL p A B).length = A.length + B.length - 1 := by
  unfold mulL
  rw [List.length_map, List.length_range]
theorem ext0 {l m : List Int} {n : Nat} (h1 : l.length = n) (h2 : m.length = n) (h : ∀ i, i < n → at0 l i = at0 m i) : l = m := by
  refine List.ext_getElem (h1.trans h2.symm) fun i a b => ?_
  have e := h i (by omega)
  rw [at0_of (List.getElem?_eq_getElem a), at0_of (List.getElem?_eq_getElem b)] at e
  exact e
theorem int_add0 (a : Int) : a + (0 : Int) = a := Int.add_zero a
theorem partL_start (p : Nat) (A B : List Int) : partL p A B 0 0 = List.replicate (A.length + B.length - 1) 0 := by
  refine ext0 (partL_len ..) (List.length_replicate ..) fun i hi => ?_
  unfold partL
  rw [at0_map hi]
  have e : at0 (List.replicate (A.length + B.length - 1) (0 : Int)) i = 0 := at0_of (by rw [List.getElem?_replicate, if_pos hi])
  rw [e]
  show ((0 : Int) + 0) % (p : Int) = 0
  simp
theorem partL_row (p : Nat) (A B : List Int) (i : Nat) : partL p A B i B.length = partL p A B (i + 1) 0 := by
  unfold partL
  refine List.map_congr_left fun k _ => ?_
  congr 1
  unfold part
  rw [S_succ, S_zero]
  exact (int_add0 _).symm
theorem partL_end (p : Nat) (A B : List Int) : partL p A B A.length 0 = mulL p A B := by
  unfold partL mulL
  refine List.map_congr_left fun k _ => ?_
  congr 1
  unfold part P
  rw [S_zero]
  exact int_add0 _
theorem part_step (A B : List Int) (i j k : Nat) : part A B i (j + 1) k = part A B i j k + (if i + j = k then at0 A i * at0 B j else 0) := by
  unfold part
  rw [S_succ]
  exact (Int.add_assoc _ _ _).symm
theorem partL_step (p : Nat) (A B : List Int) {i j : Nat} (hi : i < A.length) (hj : j < B.length) :
    (partL p A B i j).set (i + j) ((at0 (partL p A B i j) (i + j) + at0 A i * at0 B j) % (p : Int)) = partL p A B i (j + 1) := by
  have hb : i + j < A.length + B.length - 1 := by omega
  refine ext0 (by rw [List.length_set, partL_len]) (partL_len ..) fun k hk => ?_
  have e2 : at0 (partL p A B i (j + 1)) k = part A B i (j + 1) k % (p : Int) := by unfold partL; rw [at0_map hk]
  have e1 : at0 (partL p A B i j) k = part A B i j k % (p : Int) := by unfold partL; rw [at0_map hk]
  rw [e2, part_step]
  by_cases c : i + j = k
  · rw [if_pos c]
    rw [c] at hb ⊢
    rw [at0_of (by rw [List.getElem?_set_self (by rw [partL_len]; exact hk)]), e1, Int.emod_add_emod]
  · rw [if_neg c, int_add0]
    rw [show at0 ((partL p A B i j).set (i + j) _) k = at0 (partL p A B i j) k by
      unfold at0
      rw [List.getD_eq_getElem?_getD, List.getElem?_set_ne c, ← List.getD_eq_getElem?_getD]]
    exact e1
/-! ### folded to n places -/
def foldL (p n : Nat) (L : List Int) (t : Nat) : List Int := (List.range n).map fun k => S (fun m => if m % n = k then at0 L m else 0) t % (p : Int)
theorem foldL_len (p n : Nat) (L : List Int) (t : Nat) : (foldL p n L t).length = n := by
  unfold foldL
  rw [List.length_map, List.length_range]
theorem foldL_start (p n : Nat) (L : List Int) : foldL p n L 0 = List.replicate n 0 := by
  refine ext0 (foldL_len ..) (List.length_replicate ..) fun i hi => ?_
  unfold foldL
  rw [at0_map hi]
  have e : at0 (List.replicate n (0 : Int)) i = 0 := at0_of (by rw [List.getElem?_replicate, if_pos hi])
  rw [e, S_zero]
  exact Int.zero_emod _
theorem foldL_step (p : Nat) {n t : Nat} (L : List Int) (hn : 0 < n) :
    (foldL p n L t).set (t % n) ((at0 (foldL p n L t) (t % n) + at0 L t) % (p : Int)) = foldL p n L (t + 1) := by
  refine ext0 (by rw [List.length_set, foldL_len]) (foldL_len ..) fun k hk => ?_
  have e2 : at0 (foldL p n L (t + 1)) k = (S (fun m => if m % n = k then at0 L m else 0) t + (if t % n = k then at0 L t else 0)) % (p : Int) := by
    unfold foldL
    rw [at0_map hk]
    rfl
  have e1 : at0 (foldL p n L t) k = S (fun m => if m % n = k then at0 L m else 0) t % (p : Int) := by unfold foldL; rw [at0_map hk]
  rw [e2]
  by_cases c : t % n = k
  · rw [if_pos c, c]
    rw [at0_of (by rw [List.getElem?_set_self (by rw [foldL_len]; exact hk)]), e1, Int.emod_add_emod]
  · rw [if_neg c, int_add0]
    rw [show at0 ((foldL p n L t).set (t % n) _) k = at0 (foldL p n L t) k by
      unfold at0
      rw [List.getD_eq_getElem?_getD, List.getElem?_set_ne c, ← List.getD_eq_getElem?_getD]]
    exact e1
/-- the ring product -/
def ringL (p : Nat) (A B : List Int) : List Int := foldL p A.length (mulL p A B) (mulL p A B).length
theorem ringL_len (p : Nat) (A B : List Int) : (ringL p A B).length = A.length := foldL_len ..
end Spm

namespace Spm
/-! Primes as the program looks at them; the sizes; a root of a size. -/
def tbl : List Int := [2, 3, 5, 7, 11, 13, 17, 19, 23, 29, 31, 37, 41, 61, 97, 193, 257, 337, 577, 997]
/-- no part below 32, as the law looks (whole numbers) -/
def NoPart (f : Int) : Prop := ∀ d : Int, 2 ≤ d → d < 32 → ¬ (d < f ∧ f % d = 0)
theorem sf_of {f : Int} (h2 : 2 ≤ f) (h3 : f ≤ 997) (h : NoPart f) : SF f.toNat := by
  refine ⟨by omega, by omega, fun d d2 d3 dn e => ?_⟩
  refine h (d : Int) (by omega) (by omega) ⟨by omega, ?_⟩
  have q : ((f.toNat % d : Nat) : Int) = ((0 : Nat) : Int) := by rw [e]
  rw [Int.natCast_emod, Int.toNat_of_nonneg (by omega)] at q
  exact q
def npB (f : Int) : Bool := (List.range 32).all fun d => decide (d < 2) || !(decide ((d : Int) < f) && decide (f % (d : Int) = 0))
theorem np_of {f : Int} (h : npB f = true) : NoPart f := by
  intro d d2 d3 ⟨a, b⟩
  have q := List.all_eq_true.mp h d.toNat (List.mem_range.mpr (by omega))
  have e : ((d.toNat : Nat) : Int) = d := Int.toNat_of_nonneg (by omega)
  rw [e] at q
  have c1 : decide (d.toNat < 2) = false := decide_eq_false (by omega)
  rw [c1, decide_eq_true a, decide_eq_true b] at q
  exact absurd q (by decide)
theorem tbl_np : tbl.all (fun f => decide (2 ≤ f) && (decide (f ≤ 997) && npB f)) = true := by decide +kernel
theorem tbl_ok {i : Nat} (h : i < 20) : SF (at0 tbl i).toNat ∧ 2 ≤ at0 tbl i ∧ at0 tbl i ≤ 997 := by
  have m : at0 tbl i ∈ tbl := List.mem_of_getElem? (at0_get (l := tbl) (i := i) h)
  have q := List.all_eq_true.mp tbl_np _ m
  rw [Bool.and_eq_true, Bool.and_eq_true] at q
  have a := of_decide_eq_true q.1
  have b := of_decide_eq_true q.2.1
  exact ⟨sf_of a b (np_of q.2.2), a, b⟩
theorem np997 : NoPart 997 := np_of (by decide +kernel)
/-- as is_prime looks -/
def PrimeP (n : Int) : Prop := 2 ≤ n ∧ n ≤ 997 ∧ ∀ d : Int, 2 ≤ d → d < n → ¬ (d * d ≤ n ∧ n % d = 0)
theorem prime_of_sf {p : Nat} (h : SF p) : PrimeP (p : Int) := by
  obtain ⟨h2, h3, h4⟩ := h
  refine ⟨by omega, by omega, fun d d2 dn ⟨a, b⟩ => ?_⟩
  have d32 : d < 32 := by
    by_cases q : d < 32
    · exact q
    · have : 32 * 32 ≤ d * d := Int.mul_le_mul (by omega) (by omega) (by omega) (by omega)
      omega
  refine h4 d.toNat (by omega) (by omega) (by omega) ?_
  have e : ((d.toNat : Nat) : Int) = d := Int.toNat_of_nonneg (by omega)
  have q : ((p % d.toNat : Nat) : Int) = 0 := by rw [Int.natCast_emod, e]; exact b
  omega
/-- on the way round to a generator -/
def dist (p : Nat) (g one : Int) : Nat := if one ≤ g then (g - one).toNat else (g - one + (p - 1)).toNat
theorem dist_next {p : Nat} {g one : Int} (hp : 2 ≤ p) (g0 : 0 < g) (g1 : g < p) (o0 : 1 ≤ one) (o1 : one < p) (ne : one ≠ g) :
    1 ≤ 1 + one % ((p : Int) - 1) ∧ 1 + one % ((p : Int) - 1) < p ∧ dist p g (1 + one % ((p : Int) - 1)) < dist p g one := by
  by_cases c : one = (p : Int) - 1
  · have e : one % ((p : Int) - 1) = 0 := by rw [c]; exact Int.emod_self
    rw [e]
    unfold dist
    refine ⟨by omega, by omega, ?_⟩
    rw [if_pos (by omega), if_neg (by omega)]
    omega
  · have e : one % ((p : Int) - 1) = one := Int.emod_eq_of_lt (by omega) (by omega)
    rw [e]
    unfold dist
    refine ⟨by omega, by omega, ?_⟩
    by_cases q : one ≤ g
    · rw [if_pos (by omega), if_pos q]; omega
    · rw [if_neg (by omega), if_neg q]; omega
/-- a power of a rest above 0 is above 0 -/
theorem pwm_pos {p : Nat} (G : Good p) {a : Int} (h0 : 0 < a) (h1 : a < p) (n : Nat) : 1 ≤ pwm p a n ∧ pwm p a n < p := by
  obtain ⟨b0, b1⟩ := pwm_bd (p := p) (by have := G.two; omega) a n
  refine ⟨?_, b1⟩
  by_cases c : pwm p a n = 0
  · exfalso
    haveI : NeZero p := ⟨by have := G.two; omega⟩
    have D := G.dom (fhom p)
    have e : (fhom p).ph a ^ n = 0 := by rw [← pwm_ph, c, (fhom p).zero]
    have z : ∀ m : Nat, (fhom p).ph a ^ m ≠ 0 := fun m => by
      induction m with
      | zero =>
        rw [pw_zero, ← (fhom p).one]
        intro q
        have := ((fhom p).ne0 ⟨by omega, by have := G.two; omega⟩).mp q
        omega
      | succ m ih =>
        rw [pw_succ]
        intro q
        rcases D _ _ q with r | r
        · exact ih r
        · have := ((fhom p).ne0 ⟨by omega, h1⟩).mp r
          omega
    exact z n e
  · omega
end Spm

namespace Spm
/-! Law 1: powers by the rest by the prime less one; the inverse. -/
theorem pwm_zero {p : Nat} (hp : 2 ≤ p) (x : Int) : pwm p x 0 = 1 := by
  show x ^ 0 % (p : Int) = 1
  rw [Int.pow_zero]
  exact Int.emod_eq_of_lt (by omega) (by omega)
theorem pwm_0 {p : Nat} {n : Nat} (hn : 0 < n) : pwm p 0 n = 0 := by
  show (0 : Int) ^ n % (p : Int) = 0
  rw [Int.zero_pow (by omega), Int.zero_emod]
theorem pwm_fermat {p : Nat} (G : Good p) {x : Int} (h0 : 0 < x) (h1 : x < p) (n : Nat) : pwm p x (n % (p - 1)) = pwm p x n := by
  haveI : NeZero p := ⟨by have := G.two; omega⟩
  have hp : 0 < p := by have := G.two; omega
  refine (fhom p).eq (pwm_bd hp _ _) (pwm_bd hp _ _) ?_
  rw [pwm_ph, pwm_ph]
  refine pw_mod (G.flR (fhom p) _ fun z => ?_) n
  have := ((fhom p).ne0 ⟨by omega, h1⟩).mp z
  omega
theorem inv_mul {p : Nat} (G : Good p) {x : Int} (h0 : 0 < x) (h1 : x < p) : inv p x * x % (p : Int) = 1 := by
  haveI : NeZero p := ⟨by have := G.two; omega⟩
  rw [← (fhom p).is1 G.two, (fhom p).mul]
  unfold inv
  rw [pwm_ph]
  have e := G.invR (fhom p) ((fhom p).ph x) (fun z => by
    have := ((fhom p).ne0 ⟨by omega, h1⟩).mp z
    omega)
  grind
theorem toNat_mod {e : Int} {p : Nat} (he : 0 ≤ e) (hp : 2 ≤ p) : (e % ((p : Int) - 1)).toNat = e.toNat % (p - 1) := by
  have h : ((e.toNat % (p - 1) : Nat) : Int) = e % ((p : Int) - 1) := by
    rw [Int.natCast_emod, Int.toNat_of_nonneg he, show ((p - 1 : Nat) : Int) = (p : Int) - 1 by omega]
  rw [← h, Int.toNat_natCast]
end Spm

namespace Spm
open Lean.Grind
/-! Rows turned: the lists as the transform over the rests. -/
theorem sum_S (f : Nat → Int) : ∀ n, ((List.range n).map f).sum = S f n
  | 0 => rfl
  | n + 1 => by
    rw [List.range_succ, List.map_append, List.sum_append, sum_S f n, S_succ]
    show _ + ((f n) + 0) = _
    rw [Int.add_zero]
theorem sum_at0 : ∀ l : List Int, l.sum = S (at0 l) l.length := fun l => by
  have e : l = (List.range l.length).map (at0 l) := ext0 rfl (by rw [List.length_map, List.length_range]) fun i hi => (at0_map hi).symm
  rw [← sum_S, ← e]
section
variable {p : Nat} {R : Type} [CommRing R] (h : Hom p R)
theorem map_getD (row : List Int) (j : Nat) : (row.map h.ph).getD j 0 = h.ph (at0 row j) := by
  unfold at0
  rw [List.getD_eq_getElem?_getD, List.getD_eq_getElem?_getD, List.getElem?_map]
  cases row[j]? with
  | none => exact h.zero.symm
  | some z => rfl
theorem hor_S (row : List Int) (x : Int) : h.ph (hor p row x) = S (fun j => h.ph (at0 row j) * h.ph x ^ j) row.length := by
  rw [hor_ph, ev_S, List.length_map]
  exact S_congr fun j _ => by rw [map_getD]
/-- the numbers of a row among the rests -/
def phr (row : List Int) (j : Nat) : R := h.ph (at0 row j)
theorem spn_len (p : Nat) (x : Int) (row : List Int) : (spn p x row).length = row.length := by
  unfold spn
  rw [List.length_map, List.length_range]
theorem spn_at {x : Int} {row : List Int} {k : Nat} (hk : k < row.length) : at0 (spn p x row) k = hor p row (pwm p x k) := by
  unfold spn
  rw [at0_map hk]
theorem spn_ph {x : Int} {row : List Int} {k : Nat} (hk : k < row.length) : phr h (spn p x row) k = F (h.ph x) row.length (phr h row) k := by
  unfold phr
  rw [spn_at hk, hor_S]
  refine S_congr fun j _ => ?_
  rw [pwm_ph, ← pw_mul, Nat.mul_comm k j]
theorem spn_bd (hp : 0 < p) {x : Int} {row : List Int} : ∀ z ∈ spn p x row, 0 ≤ z ∧ z < p := by
  intro z hz
  unfold spn at hz
  obtain ⟨k, _, e⟩ := List.mem_map.mp hz
  rw [← e]
  exact hor_bd hp _ _
end
/-- lists of rests with the same numbers among the rests are one -/
theorem rests_ext {p : Nat} {R : Type} [CommRing R] (h : Hom p R) {l m : List Int} {n : Nat} (h1 : l.length = n) (h2 : m.length = n) (b1 : ∀ z ∈ l, 0 ≤ z ∧ z < p) (b2 : ∀ z ∈ m, 0 ≤ z ∧ z < p)
    (e : ∀ i, i < n → phr h l i = phr h m i) : l = m := by
  refine ext0 h1 h2 fun i hi => ?_
  refine h.eq (b1 _ (List.mem_of_getElem? (at0_get (by omega)))) (b2 _ (List.mem_of_getElem? (at0_get (by omega)))) (e i hi)
/-- as the law turns: by the root's powers, their places taken by the length -/
def lawT (p : Nat) (x : Int) (row : List Int) : List Int :=
  (List.range row.length).map fun k => ((List.range row.length).map fun j => at0 row j * pwm p x (j * k % row.length)).sum % (p : Int)
theorem lawT_eq {p : Nat} (hp : 2 ≤ p) {x : Int} {row : List Int} (o : Ord p x row.length) : lawT p x row = spn p x row := by
  haveI : NeZero p := ⟨by omega⟩
  have r := o.root (fhom p) hp
  refine rests_ext (fhom p) (n := row.length) (by unfold lawT; rw [List.length_map, List.length_range]) (spn_len ..) ?_ (spn_bd (by omega)) fun k hk => ?_
  · intro z hz
    unfold lawT at hz
    obtain ⟨k, _, e⟩ := List.mem_map.mp hz
    rw [← e]
    exact ⟨Int.emod_nonneg _ (by omega), Int.emod_lt_of_pos _ (by omega)⟩
  · rw [spn_ph _ hk]
    unfold phr lawT
    rw [at0_map hk, (fhom p).mod, sum_S, (fhom p).S]
    refine S_congr fun j _ => ?_
    rw [(fhom p).mul, pwm_ph, pw_mod r.one]
end Spm

namespace Spm
open Lean.Grind
/-! Law 13: sums of products. -/
theorem emod_bd {p : Nat} (hp : 0 < p) (a : Int) : 0 ≤ a % (p : Int) ∧ a % (p : Int) < p := ⟨Int.emod_nonneg _ (by omega), Int.emod_lt_of_pos _ (by omega)⟩
theorem first_sum {p : Nat} (hp : 2 ≤ p) {x : Int} {A : List Int} (hn : 0 < A.length) : at0 (spn p x A) 0 = A.sum % (p : Int) := by
  haveI : NeZero p := ⟨by omega⟩
  refine (fhom p).eq (spn_bd (by omega) _ (List.mem_of_getElem? (at0_get (by rw [spn_len]; exact hn)))) (emod_bd (by omega) _) ?_
  have e := spn_ph (fhom p) (x := x) (row := A) hn
  unfold phr at e
  rw [e, (fhom p).mod, sum_at0, (fhom p).S]
  refine S_congr fun j _ => ?_
  rw [Nat.mul_zero, pw_zero]
  exact Semiring.mul_one _
theorem sum_first {p : Nat} (G : Good p) {x : Int} {A : List Int} (o : Ord p x A.length) : (spn p x A).sum % (p : Int) = (A.length : Int) * at0 A 0 % (p : Int) := by
  have hp := G.two
  haveI : NeZero p := ⟨by omega⟩
  have r := o.root (fhom p) hp
  rw [← (fhom p).inj, sum_at0, (fhom p).S, spn_len, (fhom p).mul, (fhom p).N]
  have e := F_F (G.dom (fhom p)) r (phr (fhom p) A) 0 o.pos
  rw [Nat.sub_zero, Nat.mod_self] at e
  unfold phr at e
  rw [← e]
  unfold F
  refine S_congr fun k hk => ?_
  rw [Nat.mul_zero, pw_zero]
  have q := spn_ph (fhom p) (x := x) (row := A) hk
  unfold phr F at q
  rw [q]
  exact (Semiring.mul_one _).symm
theorem law13 {p : Nat} (G : Good p) {x : Int} {A B : List Int} (hB : B.length = A.length) (o : Ord p x A.length) :
    ((List.range A.length).map fun k => at0 (spn p x A) k * at0 (spn p x B) k).sum % (p : Int) = (A.length : Int) * ((List.range A.length).map fun k => at0 A k * at0 B ((A.length - k) % A.length)).sum % (p : Int) := by
  have hp := G.two
  haveI : NeZero p := ⟨by omega⟩
  have r := o.root (fhom p) hp
  rw [← (fhom p).inj, sum_S, sum_S, (fhom p).S, (fhom p).mul, (fhom p).S, (fhom p).N]
  have e := parseval (G.dom (fhom p)) r (phr (fhom p) A) (phr (fhom p) B)
  have e1 : S (fun i => (fhom p).ph (at0 (spn p x A) i * at0 (spn p x B) i)) A.length = S (fun k => F ((fhom p).ph x) A.length (phr (fhom p) A) k * F ((fhom p).ph x) A.length (phr (fhom p) B) k) A.length := S_congr fun k hk => by
    have q1 := spn_ph (fhom p) (x := x) (row := A) hk
    have q2 := spn_ph (fhom p) (x := x) (row := B) (k := k) (by omega)
    rw [hB] at q2
    rw [(fhom p).mul, ← q1, ← q2]
    rfl
  rw [e1, e]
  congr 1
  refine S_congr fun k _ => ?_
  rw [(fhom p).mul]
  rfl
end Spm

namespace Spm
open Lean.Grind
/-! Law 8: shifts and contrary rows. -/
/-- moved round by one -/
def moved (A : List Int) : List Int := A.drop (A.length - 1) ++ A.take (A.length - 1)
theorem moved_len (A : List Int) : (moved A).length = A.length := by
  unfold moved
  rw [List.length_append, List.length_drop, List.length_take]
  omega
theorem moved_0 {A : List Int} (h : 0 < A.length) : at0 (moved A) 0 = at0 A (A.length - 1) := by
  refine at0_of ?_
  unfold moved
  rw [List.getElem?_append_left (by rw [List.length_drop]; omega), List.getElem?_drop]
  exact at0_get (by omega)
theorem moved_succ {A : List Int} {i : Nat} (h : i + 1 < A.length) : at0 (moved A) (i + 1) = at0 A i := by
  refine at0_of ?_
  unfold moved
  have e : (A.drop (A.length - 1)).length = 1 := by rw [List.length_drop]; omega
  rw [List.getElem?_append_right (by rw [e]; omega), e, Nat.add_sub_cancel, List.getElem?_take, if_pos (by omega)]
  exact at0_get (by omega)
theorem law8_moved {p : Nat} (G : Good p) {x : Int} {A : List Int} (o : Ord p x A.length) :
    spn p x (moved A) = (List.range A.length).map fun k => at0 (spn p x A) k * pwm p x k % (p : Int) := by
  have hp := G.two
  haveI : NeZero p := ⟨by omega⟩
  have r := o.root (fhom p) hp
  have hn := o.pos
  refine rests_ext (fhom p) (n := A.length) (by rw [spn_len, moved_len]) (by rw [List.length_map, List.length_range]) (spn_bd (by omega)) ?_ fun k hk => ?_
  · intro z hz
    obtain ⟨k, _, e⟩ := List.mem_map.mp hz
    rw [← e]
    exact emod_bd (by omega) _
  · have q1 := spn_ph (fhom p) (x := x) (row := moved A) (k := k) (by rw [moved_len]; exact hk)
    rw [q1, moved_len]
    unfold phr
    rw [at0_map hk, (fhom p).mod, (fhom p).mul, pwm_ph]
    have q2 := spn_ph (fhom p) (x := x) (row := A) hk
    unfold phr at q2
    rw [q2]
    unfold F
    obtain ⟨m, em⟩ : ∃ m, A.length = m + 1 := ⟨A.length - 1, by omega⟩
    have e1 : S (fun j => (fhom p).ph (at0 (moved A) j) * (fhom p).ph x ^ (j * k)) A.length = (fhom p).ph (at0 A m) + S (fun j => (fhom p).ph (at0 A j) * (fhom p).ph x ^ (j * k) * (fhom p).ph x ^ k) m := by
      rw [em, S_left, moved_0 hn, Nat.zero_mul, pw_zero, show A.length - 1 = m by omega]
      have e2 : S (fun i => (fhom p).ph (at0 (moved A) (i + 1)) * (fhom p).ph x ^ ((i + 1) * k)) m = S (fun j => (fhom p).ph (at0 A j) * (fhom p).ph x ^ (j * k) * (fhom p).ph x ^ k) m := S_congr fun i hi => by
        rw [moved_succ (by omega), Nat.add_mul, Nat.one_mul, pw_add]
        exact (Semiring.mul_assoc _ _ _).symm
      rw [e2]
      grind
    rw [e1, em, S_succ, S_mul_r]
    have e3 : (fhom p).ph x ^ (m * k) * (fhom p).ph x ^ k = 1 := by
      rw [← pw_add, show m * k + k = (m + 1) * k by rw [Nat.add_mul, Nat.one_mul], ← em, pw_mul, r.one, pw_one]
    grind
theorem law8_back {p : Nat} (G : Good p) {x : Int} {A : List Int} (o : Ord p x A.length) :
    spn p (pwm p x (A.length - 1)) A = (List.range A.length).map fun k => at0 (spn p x A) ((A.length - k) % A.length) := by
  have hp := G.two
  haveI : NeZero p := ⟨by omega⟩
  have r := o.root (fhom p) hp
  have hn := o.pos
  refine rests_ext (fhom p) (n := A.length) (spn_len ..) (by rw [List.length_map, List.length_range]) (spn_bd (by omega)) ?_ fun k hk => ?_
  · intro z hz
    obtain ⟨k, _, e⟩ := List.mem_map.mp hz
    rw [← e]
    exact spn_bd (by omega) _ (List.mem_of_getElem? (at0_get (by rw [spn_len]; exact Nat.mod_lt _ hn)))
  · rw [spn_ph _ hk]
    unfold phr
    rw [at0_map hk]
    have q2 := spn_ph (fhom p) (x := x) (row := A) (k := (A.length - k) % A.length) (Nat.mod_lt _ hn)
    unfold phr at q2
    rw [q2, pwm_ph]
    refine F_inv r ?_ _ k hk
    have e : (fhom p).ph x * (fhom p).ph x ^ (A.length - 1) = (fhom p).ph x ^ A.length := by
      have e2 : A.length = (A.length - 1) + 1 := by omega
      rw [show (fhom p).ph x ^ A.length = (fhom p).ph x ^ ((A.length - 1) + 1) by rw [← e2], pw_succ]
      grind
    rw [e, r.one]
/-- the order of the root's inverse -/
theorem ord_back {p : Nat} (G : Good p) {x : Int} {n : Nat} (o : Ord p x n) : Ord p (pwm p x (n - 1)) n := by
  have hp := G.two
  haveI : NeZero p := ⟨by omega⟩
  have r := o.root (fhom p) hp
  have hn := o.pos
  refine .of_root (fhom p) hp ?_
  refine r.inv ?_
  rw [pwm_ph]
  have e : (fhom p).ph x * (fhom p).ph x ^ (n - 1) = (fhom p).ph x ^ n := by
    have e2 : n = (n - 1) + 1 := by omega
    rw [show (fhom p).ph x ^ n = (fhom p).ph x ^ ((n - 1) + 1) by rw [← e2], pw_succ]
    grind
  rw [e, r.one]
theorem law8_twice {p : Nat} (G : Good p) {x : Int} {A : List Int} (o : Ord p x A.length) :
    spn p x (spn p x A) = (List.range A.length).map fun k => (A.length : Int) * at0 A ((A.length - k) % A.length) % (p : Int) := by
  have hp := G.two
  haveI : NeZero p := ⟨by omega⟩
  have r := o.root (fhom p) hp
  have hn := o.pos
  refine rests_ext (fhom p) (n := A.length) (by rw [spn_len, spn_len]) (by rw [List.length_map, List.length_range]) (spn_bd (by omega)) ?_ fun k hk => ?_
  · intro z hz
    obtain ⟨k, _, e⟩ := List.mem_map.mp hz
    rw [← e]
    exact emod_bd (by omega) _
  · rw [spn_ph _ (by rw [spn_len]; exact hk), spn_len]
    rw [F_congr (g := F ((fhom p).ph x) A.length (phr (fhom p) A)) (fun i hi => spn_ph _ hi), F_F (G.dom (fhom p)) r _ k hk]
    unfold phr
    rw [at0_map hk, (fhom p).mod, (fhom p).mul, (fhom p).N]
/-- 1 at place 0 alone -/
def unit (n : Nat) : List Int := 1 :: List.replicate (n - 1) 0
theorem unit_len {n : Nat} (h : 0 < n) : (unit n).length = n := by
  unfold unit
  rw [List.length_cons, List.length_replicate]
  omega
theorem unit_at {n i : Nat} (h : i < n) : at0 (unit n) i = if i = 0 then 1 else 0 := by
  cases i with
  | zero => rw [if_pos rfl]; exact at0_of rfl
  | succ i =>
    rw [if_neg (by omega)]
    refine at0_of ?_
    unfold unit
    rw [List.getElem?_cons_succ, List.getElem?_replicate, if_pos (by omega)]
theorem law8_unit {p : Nat} (G : Good p) {x : Int} {n : Nat} (hn : 0 < n) : spn p x (unit n) = List.replicate n 1 := by
  have hp := G.two
  haveI : NeZero p := ⟨by omega⟩
  refine rests_ext (fhom p) (n := n) (by rw [spn_len, unit_len hn]) (List.length_replicate ..) (spn_bd (by omega)) ?_ fun k hk => ?_
  · intro z hz
    rw [(List.mem_replicate.mp hz).2]
    exact ⟨by omega, by omega⟩
  · rw [spn_ph _ (by rw [unit_len hn]; exact hk), unit_len hn]
    unfold phr F
    rw [at0_of (l := List.replicate n (1 : Int)) (z := 1) (by rw [List.getElem?_replicate, if_pos hk]), (fhom p).one]
    rw [S_one _ 0 n hn fun i hi ne => by
      show (fhom p).ph (at0 (unit n) i) * _ = 0
      rw [unit_at hi, if_neg ne, (fhom p).zero]; exact Semiring.zero_mul _]
    show (fhom p).ph (at0 (unit n) 0) * _ = 1
    rw [unit_at hn, if_pos rfl, (fhom p).one, Nat.zero_mul, pw_zero]
    exact Semiring.mul_one _
theorem law8_ones {p : Nat} (G : Good p) {x : Int} {n : Nat} (o : Ord p x n) : spn p x (List.replicate n 1) = (unit n).map fun k => (n : Int) * k % (p : Int) := by
  have hp := G.two
  haveI : NeZero p := ⟨by omega⟩
  have r := o.root (fhom p) hp
  have hn := o.pos
  refine rests_ext (fhom p) (n := n) (by rw [spn_len, List.length_replicate]) (by rw [List.length_map, unit_len hn]) (spn_bd (by omega)) ?_ fun k hk => ?_
  · intro z hz
    obtain ⟨k, _, e⟩ := List.mem_map.mp hz
    rw [← e]
    exact emod_bd (by omega) _
  · rw [spn_ph _ (by rw [List.length_replicate]; exact hk), List.length_replicate]
    have e : at0 ((unit n).map fun k => (n : Int) * k % (p : Int)) k = (n : Int) * at0 (unit n) k % (p : Int) := by
      refine at0_of ?_
      rw [List.getElem?_map, at0_get (by rw [unit_len hn]; exact hk)]
      rfl
    unfold phr F
    rw [e, (fhom p).mod, (fhom p).mul, (fhom p).N, unit_at hk]
    rw [S_congr (g := fun j => (fhom p).ph x ^ (j * k)) fun j hj => by
      show (fhom p).ph (at0 (List.replicate n 1) j) * _ = _
      rw [at0_of (l := List.replicate n (1 : Int)) (z := 1) (by rw [List.getElem?_replicate, if_pos hj]), (fhom p).one]
      exact Semiring.one_mul _]
    rw [r.orth (G.dom (fhom p)), Nat.mod_eq_of_lt hk]
    by_cases c : k = 0
    · rw [if_pos c, if_pos c, (fhom p).one]
      exact (Semiring.mul_one _).symm
    · rw [if_neg c, if_neg c, (fhom p).zero]
      exact (Semiring.mul_zero _).symm
end Spm

namespace Spm
open Lean.Grind
/-! Law 6: there and back. -/
def backL (p : Nat) (x : Int) (row : List Int) : List Int := (spn p (inv p x) row).map fun z => z * inv p row.length % (p : Int)
theorem backL_len (p : Nat) (x : Int) (row : List Int) : (backL p x row).length = row.length := by
  unfold backL
  rw [List.length_map, spn_len]
theorem backL_bd {p : Nat} (hp : 0 < p) (x : Int) (row : List Int) : ∀ z ∈ backL p x row, 0 ≤ z ∧ z < p := by
  intro z hz
  obtain ⟨k, _, e⟩ := List.mem_map.mp hz
  rw [← e]
  exact emod_bd hp _
theorem backL_at {p : Nat} {x : Int} {row : List Int} {k : Nat} (hk : k < row.length) : at0 (backL p x row) k = at0 (spn p (inv p x) row) k * inv p row.length % (p : Int) := by
  refine at0_of ?_
  unfold backL
  rw [List.getElem?_map, at0_get (by rw [spn_len]; exact hk)]
  rfl
theorem ph_inv {p : Nat} {R : Type} [CommRing R] (h : Hom p R) (G : Good p) {x : Int} (h0 : 0 < x) (h1 : x < p) : h.ph x * h.ph (inv p x) = 1 := by
  have e := (h.is1 G.two _).mpr (inv_mul G h0 h1)
  rw [h.mul] at e
  grind
theorem ord_lt {p : Nat} (G : Good p) {x : Int} (h0 : 0 < x) (h1 : x < p) {n : Nat} (o : Ord p x n) : n < p := by
  have d := Nat.dvd_of_mod_eq_zero (G.ord_dvd h0 h1 o)
  have := Nat.le_of_dvd (by have := G.two; omega) d
  have := G.two
  omega
theorem back_turned {p : Nat} (G : Good p) {x : Int} {A : List Int} (x0 : 0 < x) (x1 : x < p) (hA : ∀ z ∈ A, 0 ≤ z ∧ z < (p : Int)) (o : Ord p x A.length) : backL p x (spn p x A) = A := by
  have hp := G.two
  haveI : NeZero p := ⟨by omega⟩
  have r := o.root (fhom p) hp
  have hn := o.pos
  have nlt := ord_lt G x0 x1 o
  have hi := ph_inv (fhom p) G x0 x1
  have hN := ph_inv (fhom p) G (x := (A.length : Int)) (by omega) (by omega)
  refine rests_ext (fhom p) (n := A.length) (by rw [backL_len, spn_len]) rfl (backL_bd (by omega) _ _) hA fun k hk => ?_
  unfold phr
  rw [backL_at (by rw [spn_len]; exact hk), (fhom p).mod, (fhom p).mul, spn_len]
  have q := spn_ph (fhom p) (x := inv p x) (row := spn p x A) (k := k) (by rw [spn_len]; exact hk)
  unfold phr at q
  rw [q, spn_len]
  have q2 : F ((fhom p).ph (inv p x)) A.length (fun j => (fhom p).ph (at0 (spn p x A) j)) k = N (Fin p) A.length * (fhom p).ph (at0 A k) := by
    show F ((fhom p).ph (inv p x)) A.length (phr (fhom p) (spn p x A)) k = N (Fin p) A.length * (fhom p).ph (at0 A k)
    rw [F_congr (g := F ((fhom p).ph x) A.length (phr (fhom p) A)) (fun i hi => spn_ph (fhom p) hi), F_back (G.dom (fhom p)) r hi _ k hk]
    rfl
  rw [q2, ← (fhom p).N]
  grind
theorem turned_backL {p : Nat} (G : Good p) {x : Int} {A : List Int} (x0 : 0 < x) (x1 : x < p) (hA : ∀ z ∈ A, 0 ≤ z ∧ z < (p : Int)) (o : Ord p x A.length) : spn p x (backL p x A) = A := by
  have hp := G.two
  haveI : NeZero p := ⟨by omega⟩
  have r := o.root (fhom p) hp
  have hn := o.pos
  have nlt := ord_lt G x0 x1 o
  have hi := ph_inv (fhom p) G x0 x1
  have hN := ph_inv (fhom p) G (x := (A.length : Int)) (by omega) (by omega)
  have ri := r.inv hi
  refine rests_ext (fhom p) (n := A.length) (by rw [spn_len, backL_len]) rfl (spn_bd (by omega)) hA fun k hk => ?_
  rw [spn_ph (fhom p) (by rw [backL_len]; exact hk), backL_len]
  rw [F_congr (g := fun j => F ((fhom p).ph (inv p x)) A.length (phr (fhom p) A) j * (fhom p).ph (inv p A.length)) fun j hj => by
    unfold phr
    rw [backL_at hj, (fhom p).mod, (fhom p).mul]
    have q := spn_ph (fhom p) (x := inv p x) (row := A) hj
    unfold phr at q
    rw [q]]
  have e : F ((fhom p).ph x) A.length (fun j => F ((fhom p).ph (inv p x)) A.length (phr (fhom p) A) j * (fhom p).ph (inv p A.length)) k = F ((fhom p).ph x) A.length (F ((fhom p).ph (inv p x)) A.length (phr (fhom p) A)) k * (fhom p).ph (inv p A.length) := by
    rw [F, F, ← S_mul_r]
    refine S_congr fun j _ => ?_
    grind
  rw [e, F_back (G.dom (fhom p)) ri (by grind) _ k hk, ← (fhom p).N]
  grind
end Spm

namespace Spm
open Lean.Grind
/-! Law 3: orders and roots. -/
open Classical in
noncomputable def ordF (p : Nat) (a : Int) : Nat := if h : ∃ n, Ord p a n then Classical.choose h else 0
theorem ordF_ok {p : Nat} (G : Good p) {a : Int} (h0 : 0 < a) (h1 : a < p) : Ord p a (ordF p a) := by
  obtain ⟨n, _, o⟩ := G.has_ord h0 h1
  have h : ∃ n, Ord p a n := ⟨n, o⟩
  unfold ordF
  rw [dif_pos h]
  exact Classical.choose_spec h
/-- the roots of a size among the first i rests from 1 on -/
noncomputable def rootsP (p : Nat) (size : Int) (i : Nat) : List Int := ((List.range i).filter fun j : Nat => decide ((ordF p (1 + (j : Int)) : Int) = size)).map fun j : Nat => (1 : Int) + (j : Int)
noncomputable def rootsL (p : Nat) (size : Int) : List Int := rootsP p size (p - 1)
theorem rootsP_yes {p : Nat} {size : Int} {i : Nat} (h : (ordF p (1 + (i : Int)) : Int) = size) : rootsP p size (i + 1) = rootsP p size i ++ [1 + (i : Int)] := by
  unfold rootsP
  rw [List.range_succ, List.filter_append, List.map_append, List.filter_cons, if_pos (decide_eq_true h)]
  rfl
theorem rootsP_no {p : Nat} {size : Int} {i : Nat} (h : (ordF p (1 + (i : Int)) : Int) ≠ size) : rootsP p size (i + 1) = rootsP p size i := by
  unfold rootsP
  rw [List.range_succ, List.filter_append, List.map_append, List.filter_cons, if_neg (by rw [decide_eq_true_eq]; exact h)]
  exact List.append_nil _
theorem rootsP_len (p : Nat) (size : Int) (i : Nat) : (rootsP p size i).length ≤ i := by
  unfold rootsP
  rw [List.length_map]
  exact Nat.le_trans (List.length_filter_le _ _) (by rw [List.length_range]; exact Nat.le_refl _)
theorem rootsP_0 (p : Nat) (size : Int) : rootsP p size 0 = [] := rfl
/-- no roots of a size that doesn't go into the prime less one -/
theorem rootsL_nil {p : Nat} (G : Good p) {size : Int} (h : size < 1 ∨ ((p : Int) - 1) % size ≠ 0) : rootsL p size = [] := by
  have all : ∀ i, i ≤ p - 1 → rootsP p size i = [] := by
    intro i
    induction i with
    | zero => intro _; rfl
    | succ i ih =>
      intro hi
      rw [rootsP_no, ih (by omega)]
      intro e
      have o := ordF_ok G (a := 1 + (i : Int)) (by omega) (by omega)
      have d := G.ord_dvd (by omega) (by omega) o
      rcases h with h | h
      · have := o.pos; omega
      · apply h
        rw [← e, show (p : Int) - 1 = ((p - 1 : Nat) : Int) by have := G.two; omega, ← Int.natCast_emod, d]
        rfl
  exact all (p - 1) (Nat.le_refl _)
theorem rootsL_ne {p : Nat} (G : Good p) {size : Int} (h1 : 1 ≤ size) (h2 : ((p : Int) - 1) % size = 0) : 0 < (rootsL p size).length := by
  obtain ⟨g, g0, g1, hg⟩ := G.has_root
  have hp := G.two
  have e : ((size.toNat : Nat) : Int) = size := Int.toNat_of_nonneg (by omega)
  have d : (p - 1) % size.toNat = 0 := by
    have q : (((p - 1) % size.toNat : Nat) : Int) = 0 := by
      rw [Int.natCast_emod, e, show ((p - 1 : Nat) : Int) = (p : Int) - 1 by omega]
      exact h2
    omega
  have o := hg size.toNat ((p - 1) / size.toNat) (Nat.mul_div_cancel' (Nat.dvd_of_mod_eq_zero d))
  obtain ⟨b0, b1⟩ := pwm_pos G (a := g) (by omega) g1 ((p - 1) / size.toNat)
  have o' : Ord p (pwm p g ((p - 1) / size.toNat)) size.toNat := o
  generalize pwm p g ((p - 1) / size.toNat) = r at o' b0 b1
  refine List.length_pos_of_mem (a := r) ?_
  unfold rootsL rootsP
  refine List.mem_map.mpr ⟨(r - 1).toNat, List.mem_filter.mpr ⟨List.mem_range.mpr (by omega), ?_⟩, by omega⟩
  rw [decide_eq_true_eq, show (1 : Int) + ((r - 1).toNat : Int) = r by omega, (ordF_ok G (a := r) (by omega) b1).uniq o', e]
end Spm

namespace Spm
open Lean.Grind
/-! Products of rows. -/
section
variable {p : Nat} {R : Type} [CommRing R] (h : Hom p R)
theorem ph_P (n m : Nat) (f g : Nat → Int) (k : Nat) : h.ph (P n m f g k) = P n m (fun i => h.ph (f i)) (fun j => h.ph (g j)) k := by
  unfold P
  rw [h.S]
  refine S_congr fun i _ => ?_
  rw [h.S]
  refine S_congr fun j _ => ?_
  by_cases c : i + j = k
  · rw [if_pos c, if_pos c, h.mul]
  · rw [if_neg c, if_neg c, h.zero]
theorem mulL_at {A B : List Int} {k : Nat} (hk : k < A.length + B.length - 1) : at0 (mulL p A B) k = P A.length B.length (at0 A) (at0 B) k % (p : Int) := by
  unfold mulL
  rw [at0_map hk]
theorem mulL_ph {A B : List Int} {k : Nat} (hk : k < A.length + B.length - 1) : phr h (mulL p A B) k = P A.length B.length (phr h A) (phr h B) k := by
  unfold phr
  rw [mulL_at hk, h.mod, ph_P]
end
theorem mulL_bd {p : Nat} (hp : 0 < p) (A B : List Int) : ∀ z ∈ mulL p A B, 0 ≤ z ∧ z < p := by
  intro z hz
  obtain ⟨k, _, e⟩ := List.mem_map.mp hz
  rw [← e]
  exact emod_bd hp _
/-- the worth, added up power by power -/
theorem worth_sum {p : Nat} (hp : 0 < p) (row : List Int) (x : Int) : ((List.range row.length).map fun k => at0 row k * pwm p x k).sum % (p : Int) = hor p row x := by
  haveI : NeZero p := ⟨by omega⟩
  refine (fhom p).eq (emod_bd hp _) (hor_bd hp _ _) ?_
  rw [(fhom p).mod, sum_S, (fhom p).S, hor_S]
  refine S_congr fun k _ => ?_
  rw [(fhom p).mul, pwm_ph]
theorem worth_mul {p : Nat} (hp : 0 < p) (A B : List Int) (x : Int) : hor p (mulL p A B) x = hor p A x * hor p B x % (p : Int) := by
  haveI : NeZero p := ⟨by omega⟩
  refine (fhom p).eq (hor_bd hp _ _) (emod_bd hp _) ?_
  rw [(fhom p).mod, (fhom p).mul, hor_S, hor_S, hor_S, mulL_len, ← P_ev (L := A.length + B.length - 1) (fun i j hi hj => by omega)]
  refine S_congr fun k hk => ?_
  have e := mulL_ph (fhom p) (A := A) (B := B) hk
  unfold phr at e
  rw [e]
/-! ### the ring product -/
section
variable {p : Nat} {R : Type} [CommRing R] (h : Hom p R)
theorem ringL_ph {A B : List Int} (hB : B.length = A.length) {k : Nat} (hk : k < A.length) : phr h (ringL p A B) k = C A.length (phr h A) (phr h B) k := by
  unfold phr ringL foldL
  rw [at0_map hk, h.mod, h.S, mulL_len, hB]
  rw [C_P (L := A.length + A.length - 1) (fun i j hi hj => by omega)]
  refine S_congr fun m hm => ?_
  by_cases c : m % A.length = k
  · rw [if_pos c, if_pos c]
    have e := mulL_ph h (A := A) (B := B) (k := m) (by omega)
    rw [hB] at e
    exact e
  · rw [if_neg c, if_neg c, h.zero]
end
theorem ringL_bd {p : Nat} (hp : 0 < p) (A B : List Int) : ∀ z ∈ ringL p A B, 0 ≤ z ∧ z < p := by
  intro z hz
  obtain ⟨k, _, e⟩ := List.mem_map.mp hz
  rw [← e]
  exact emod_bd hp _
theorem ringL_comm {p : Nat} (hp : 0 < p) {A B : List Int} (hB : B.length = A.length) : ringL p B A = ringL p A B := by
  haveI : NeZero p := ⟨by omega⟩
  refine rests_ext (fhom p) (n := A.length) (by rw [ringL_len, hB]) (ringL_len ..) (ringL_bd hp _ _) (ringL_bd hp _ _) fun k hk => ?_
  rw [ringL_ph _ hB hk, ringL_ph _ hB.symm (by omega), hB, C_comm]
/-- where the second's place is what is left -/
def rot (n k i : Nat) : Nat := (k + (n - i)) % n
theorem rot_int {n k i : Nat} (hn : 0 < n) (hi : i < n) : (((k : Int)) - (i : Int)) % (n : Int) = (rot n k i : Int) := by
  unfold rot
  rw [Int.natCast_emod, Int.natCast_add, show ((n - i : Nat) : Int) = (n : Int) - i by omega, show (k : Int) + ((n : Int) - i) = (k : Int) - i + n by omega, Int.add_emod_right]
/-- as the law reckons it -/
def lawR (p : Nat) (A B : List Int) : List Int := (List.range A.length).map fun k => ((List.range A.length).map fun i => at0 A i * at0 B (rot A.length k i)).sum % (p : Int)
theorem rot_iff {n k i : Nat} (hk : k < n) (hi : i < n) : rot n k i < n ∧ ∀ j, j < n → ((i + j) % n = k ↔ j = rot n k i) := by
  have hn : 0 < n := by omega
  refine ⟨Nat.mod_lt _ hn, fun j hj => ?_⟩
  unfold rot
  constructor
  · intro e
    subst e
    by_cases c : i + j < n
    · rw [Nat.mod_eq_of_lt c, show i + j + (n - i) = j + n by omega, Nat.add_mod_right, Nat.mod_eq_of_lt hj]
    · have e1 : (i + j) % n = i + j - n := by rw [Nat.mod_eq_sub_mod (by omega), Nat.mod_eq_of_lt (by omega)]
      rw [e1, show i + j - n + (n - i) = j by omega, Nat.mod_eq_of_lt hj]
  · intro e
    subst e
    by_cases c : k + (n - i) < n
    · rw [Nat.mod_eq_of_lt c, show i + (k + (n - i)) = k + n by omega, Nat.add_mod_right, Nat.mod_eq_of_lt hk]
    · have e1 : (k + (n - i)) % n = k + (n - i) - n := by rw [Nat.mod_eq_sub_mod (by omega), Nat.mod_eq_of_lt (by omega)]
      rw [e1, show i + (k + (n - i) - n) = k by omega, Nat.mod_eq_of_lt hk]
theorem lawR_eq {p : Nat} (hp : 0 < p) {A B : List Int} (hB : B.length = A.length) : lawR p A B = ringL p A B := by
  haveI : NeZero p := ⟨by omega⟩
  refine rests_ext (fhom p) (n := A.length) (by unfold lawR; rw [List.length_map, List.length_range]) (ringL_len ..) ?_ (ringL_bd hp _ _) fun k hk => ?_
  · intro z hz
    obtain ⟨k, _, e⟩ := List.mem_map.mp hz
    rw [← e]
    exact emod_bd hp _
  · rw [ringL_ph _ hB hk, C_law _ _ k hk (rot A.length k) fun i hi => rot_iff hk hi]
    unfold phr lawR
    rw [at0_map hk, (fhom p).mod, sum_S, (fhom p).S]
    refine S_congr fun i _ => ?_
    rw [(fhom p).mul]
/-- turned, the ring product is the product place by place -/
theorem turned_ring {p : Nat} (G : Good p) {x : Int} {A B : List Int} (hB : B.length = A.length) (o : Ord p x A.length) :
    spn p x (ringL p A B) = (List.range A.length).map fun k => at0 (spn p x A) k * at0 (spn p x B) k % (p : Int) := by
  have hp := G.two
  haveI : NeZero p := ⟨by omega⟩
  have r := o.root (fhom p) hp
  have hn := o.pos
  refine rests_ext (fhom p) (n := A.length) (by rw [spn_len, ringL_len]) (by rw [List.length_map, List.length_range]) (spn_bd (by omega)) ?_ fun k hk => ?_
  · intro z hz
    obtain ⟨k, _, e⟩ := List.mem_map.mp hz
    rw [← e]
    exact emod_bd (by omega) _
  · rw [spn_ph _ (by rw [ringL_len]; exact hk), ringL_len, F_congr (g := C A.length (phr (fhom p) A) (phr (fhom p) B)) (fun i hi => ringL_ph _ hB hi), F_C hn r.one]
    unfold phr
    rw [at0_map hk, (fhom p).mod, (fhom p).mul]
    have q1 := spn_ph (fhom p) (x := x) (row := A) hk
    have q2 := spn_ph (fhom p) (x := x) (row := B) (k := k) (by omega)
    rw [hB] at q2
    unfold phr at q1 q2
    rw [q1, q2]
end Spm

namespace Spm
open Lean.Grind
/-! Rows through points. -/
/-- a row with s times another one added at the places below j -/
def addL (p : Nat) (Fd : List Int) (s : Int) (W : List Int) (j : Nat) : List Int := (List.range Fd.length).map fun k => if k < j then (at0 Fd k + s * at0 W k) % (p : Int) else at0 Fd k
theorem addL_len (p : Nat) (Fd : List Int) (s : Int) (W : List Int) (j : Nat) : (addL p Fd s W j).length = Fd.length := by
  unfold addL
  rw [List.length_map, List.length_range]
theorem addL_at {p : Nat} {Fd : List Int} {s : Int} {W : List Int} {j k : Nat} (hk : k < Fd.length) : at0 (addL p Fd s W j) k = if k < j then (at0 Fd k + s * at0 W k) % (p : Int) else at0 Fd k := by
  unfold addL
  rw [at0_map hk]
theorem addL_0 (p : Nat) (Fd : List Int) (s : Int) (W : List Int) : addL p Fd s W 0 = Fd :=
  ext0 (addL_len ..) rfl fun k hk => by rw [addL_at hk, if_neg (by omega)]
theorem addL_step (p : Nat) (Fd : List Int) (s : Int) (W : List Int) {j : Nat} (hj : j < Fd.length) :
    (addL p Fd s W j).set j ((at0 (addL p Fd s W j) j + s * at0 W j) % (p : Int)) = addL p Fd s W (j + 1) := by
  refine ext0 (by rw [List.length_set, addL_len]) (addL_len ..) fun k hk => ?_
  by_cases c : j = k
  · subst c
    rw [at0_of (by rw [List.getElem?_set_self (by rw [addL_len]; exact hk)]), addL_at hk, addL_at hk, if_neg (by omega), if_pos (by omega)]
  · rw [show at0 ((addL p Fd s W j).set j _) k = at0 (addL p Fd s W j) k by
      unfold at0
      rw [List.getD_eq_getElem?_getD, List.getElem?_set_ne c, ← List.getD_eq_getElem?_getD], addL_at hk, addL_at hk]
    by_cases d : k < j
    · rw [if_pos d, if_pos (by omega)]
    · rw [if_neg d, if_neg (by omega)]
theorem at0_out {l : List Int} {k : Nat} (h : l.length ≤ k) : at0 l k = 0 := by
  unfold at0
  rw [List.getD_eq_getElem?_getD, List.getElem?_eq_none h]
  rfl
theorem addL_bd {p : Nat} (hp : 0 < p) {Fd : List Int} (hF : ∀ z ∈ Fd, 0 ≤ z ∧ z < (p : Int)) (s : Int) (W : List Int) (j : Nat) : ∀ z ∈ addL p Fd s W j, 0 ≤ z ∧ z < (p : Int) := by
  intro z hz
  obtain ⟨k, hk, e⟩ := List.mem_map.mp hz
  have hk' := List.mem_range.mp hk
  rw [← e]
  by_cases c : k < j
  · rw [if_pos c]
    exact emod_bd hp _
  · rw [if_neg c]
    exact hF _ (List.mem_of_getElem? (at0_get hk'))
/-- the worth of the sum -/
theorem hor_add {p : Nat} (hp : 0 < p) (Fd : List Int) (s : Int) (W : List Int) (hW : W.length ≤ Fd.length) (x : Int) :
    hor p (addL p Fd s W W.length) x = (hor p Fd x + s * hor p W x) % (p : Int) := by
  haveI : NeZero p := ⟨by omega⟩
  refine (fhom p).eq (hor_bd hp _ _) (emod_bd hp _) ?_
  rw [(fhom p).mod, (fhom p).add, (fhom p).mul, hor_S, hor_S, hor_S, addL_len]
  have e : S (fun j => (fhom p).ph (at0 (addL p Fd s W W.length) j) * (fhom p).ph x ^ j) Fd.length = S (fun j => (fhom p).ph (at0 Fd j) * (fhom p).ph x ^ j + (fhom p).ph s * ((fhom p).ph (at0 W j) * (fhom p).ph x ^ j)) Fd.length := S_congr fun k hk => by
    rw [addL_at hk]
    by_cases c : k < W.length
    · rw [if_pos c, (fhom p).mod, (fhom p).add, (fhom p).mul]
      grind
    · rw [if_neg c, at0_out (l := W) (by omega), (fhom p).zero]
      grind
  rw [e, S_add, S_mul]
  obtain ⟨m, hm⟩ : ∃ m, Fd.length = W.length + m := ⟨Fd.length - W.length, by omega⟩
  have e2 : S (fun i => (fhom p).ph (at0 W i) * (fhom p).ph x ^ i) Fd.length = S (fun i => (fhom p).ph (at0 W i) * (fhom p).ph x ^ i) W.length := by
    rw [hm]
    refine S_cut _ _ _ fun i hi _ => ?_
    rw [at0_out hi, (fhom p).zero]
    grind
  rw [e2]
/-- the worth of the factor x - a -/
theorem hor_lin {p : Nat} {R : Type} [CommRing R] (h : Hom p R) (a x : Int) : h.ph (hor p [(-a) % (p : Int), 1] x) = h.ph x - h.ph a := by
  rw [hor_ph]
  simp only [List.map_cons, List.map_nil, ev]
  rw [h.mod, h.neg, h.one]
  grind
/-- what the loop over the points keeps: found has as its worths the seconds, whole is 0 at just the firsts -/
structure Thru (p n : Nat) (done : List (Int × Int)) (Fd W : List Int) : Prop where
  fl : Fd.length = n
  fb : ∀ z ∈ Fd, 0 ≤ z ∧ z < (p : Int)
  wl : W.length = done.length + 1
  wb : ∀ z ∈ W, 0 ≤ z ∧ z < (p : Int)
  firsts : ∀ q ∈ done, 0 ≤ q.1 ∧ q.1 < (p : Int)
  hits : ∀ q ∈ done, hor p Fd q.1 = q.2
  zero : ∀ x : Int, 0 ≤ x → x < (p : Int) → (hor p W x = 0 ↔ x ∈ done.map (·.1))
theorem Thru.start {p : Nat} (hp : 2 ≤ p) (n : Nat) : Thru p n [] (List.replicate n 0) [1] where
  fl := List.length_replicate ..
  fb := fun z hz => by rw [(List.mem_replicate.mp hz).2]; exact ⟨by omega, by omega⟩
  wl := rfl
  wb := fun z hz => by rw [List.mem_singleton.mp hz]; exact ⟨by omega, by omega⟩
  firsts := fun q hq => absurd hq (List.not_mem_nil)
  hits := fun q hq => absurd hq (List.not_mem_nil)
  zero := fun x _ _ => by
    have e : hor p [1] x = 1 := by
      rw [hor_cons, hor_nil, Int.zero_mul, Int.zero_add]
      exact Int.emod_eq_of_lt (by omega) (by omega)
    rw [e]
    simp
theorem Thru.turn {p n : Nat} (G : Good p) {done : List (Int × Int)} {Fd W : List Int} {x y : Int} (T : Thru p n done Fd W) (hd : done.length < n) (x0 : 0 ≤ x) (x1 : x < p) (y0 : 0 ≤ y) (y1 : y < p) (nx : x ∉ done.map (·.1)) :
    (1 ≤ hor p W x ∧ hor p W x < p) ∧
    Thru p n (done ++ [(x, y)]) (addL p Fd ((y - hor p Fd x) * inv p (hor p W x) % (p : Int)) W W.length) (mulL p W [(-x) % (p : Int), 1]) := by
  have hp := G.two
  haveI : NeZero p := ⟨by omega⟩
  have D := G.dom (fhom p)
  have wbd := hor_bd (p := p) (by omega) W x
  have w0 : hor p W x ≠ 0 := fun e => nx ((T.zero x x0 x1).mp e)
  have hle : W.length ≤ Fd.length := by rw [T.wl, T.fl]; omega
  refine ⟨⟨by omega, wbd.2⟩, ⟨by rw [addL_len]; exact T.fl, addL_bd (by omega) T.fb _ _ _, ?_, mulL_bd (by omega) _ _, ?_, ?_, ?_⟩⟩
  · rw [mulL_len, List.length_append, T.wl]
    show done.length + 1 + 2 - 1 = done.length + 1 + 1
    omega
  · intro q hq
    rcases List.mem_append.mp hq with h | h
    · exact T.firsts q h
    · rw [List.mem_singleton.mp h]; exact ⟨x0, x1⟩
  · intro q hq
    rw [hor_add (by omega) _ _ _ hle]
    have fbd := hor_bd (p := p) (by omega) Fd x
    rcases List.mem_append.mp hq with h | h
    · have c := T.firsts q h
      have z : hor p W q.1 = 0 := (T.zero q.1 c.1 c.2).mpr (List.mem_map.mpr ⟨q, h, rfl⟩)
      rw [z, Int.mul_zero, Int.add_zero, T.hits q h]
      have b := hor_bd (p := p) (by omega) Fd q.1
      rw [T.hits q h] at b
      exact Int.emod_eq_of_lt b.1 b.2
    · have e : q = (x, y) := List.mem_singleton.mp h
      subst e
      show (hor p Fd x + (y - hor p Fd x) * inv p (hor p W x) % (p : Int) * hor p W x) % (p : Int) = y
      refine (fhom p).eq (emod_bd (by omega) _) ⟨y0, y1⟩ ?_
      rw [(fhom p).mod, (fhom p).add, (fhom p).mul, (fhom p).mod, (fhom p).mul, (fhom p).sub]
      have i := ph_inv (fhom p) G (x := hor p W x) (by omega) wbd.2
      grind
  · intro z z0 z1
    rw [worth_mul (by omega)]
    have e : hor p W z * hor p [(-x) % (p : Int), 1] z % (p : Int) = 0 ↔ (hor p W z = 0 ∨ z = x) := by
      have bb := hor_bd (p := p) (by omega) W z
      rw [← (fhom p).ne0 (emod_bd (by omega) _), (fhom p).mod, (fhom p).mul, hor_lin]
      constructor
      · intro q
        rcases D _ _ q with r | r
        · exact .inl (((fhom p).ne0 bb).mp r)
        · right
          refine (fhom p).eq ⟨z0, z1⟩ ⟨x0, x1⟩ ?_
          grind
      · intro q
        rcases q with r | r
        · rw [r, (fhom p).zero]; grind
        · rw [r]; grind
    rw [e, T.zero z z0 z1, List.map_append, List.mem_append]
    simp
/-- there is just one row of as many numbers -/
theorem thru_uniq {p : Nat} (G : Good p) {xs : List Int} {A B : List Int} (hA : A.length = xs.length) (hB : B.length = xs.length) (rA : ∀ z ∈ A, 0 ≤ z ∧ z < (p : Int)) (rB : ∀ z ∈ B, 0 ≤ z ∧ z < (p : Int))
    (nd : xs.Nodup) (hx : ∀ x ∈ xs, 0 ≤ x ∧ x < (p : Int)) (h : ∀ x ∈ xs, hor p A x = hor p B x) : A = B := by
  have hp := G.two
  haveI : NeZero p := ⟨by omega⟩
  have e : A.map (fhom p).ph = B.map (fhom p).ph := by
    refine ev_eq (G.dom (fhom p)) (xs := xs.map (fhom p).ph) (by rw [List.length_map, List.length_map, hA]) (by rw [List.length_map, List.length_map, hB]) ?_ ?_
    · refine List.pairwise_map.mpr ?_
      refine List.Pairwise.imp_of_mem ?_ nd
      intro a b ha hb ne q
      exact ne ((fhom p).eq (hx a ha) (hx b hb) q)
    · intro z hz
      obtain ⟨x, hx', rfl⟩ := List.mem_map.mp hz
      rw [← hor_ph, ← hor_ph, h x hx']
  refine rests_ext (fhom p) (n := xs.length) hA hB rA rB fun i hi => ?_
  unfold phr
  rw [← map_getD, ← map_getD, e]
end Spm

namespace Spm
open Lean.Grind
/-! Law 11: turned rows as worths; the ring product by the plain one. -/
theorem S_split {R : Type} [CommRing R] (f : Nat → R) (n : Nat) : ∀ m, S f (n + m) = S f n + S (fun i => f (n + i)) m
  | 0 => by rw [S_zero, Nat.add_zero]; grind
  | m + 1 => by
    rw [← Nat.add_assoc, S_succ, S_split f n m, S_succ]; grind
theorem pow_inj {p : Nat} (hp : 2 ≤ p) {x : Int} {n : Nat} (o : Ord p x n) {i j : Nat} (hij : i < j) (hj : j < n) : pwm p x i ≠ pwm p x j := by
  intro e
  haveI : NeZero p := ⟨by omega⟩
  have r := o.root (fhom p) hp
  have e1 : (fhom p).ph x ^ i = (fhom p).ph x ^ j := by rw [← pwm_ph, ← pwm_ph, e]
  refine r.low (j - i) (by omega) (by omega) ?_
  have a : (fhom p).ph x ^ (n - i) * (fhom p).ph x ^ i = 1 := by rw [← pw_add, Nat.sub_add_cancel (by omega), r.one]
  have b : (fhom p).ph x ^ (n - i) * (fhom p).ph x ^ j = (fhom p).ph x ^ (j - i) := by
    rw [← pw_add, show n - i + j = n + (j - i) by omega, pw_add, r.one]; grind
  rw [← b, ← e1, a]
theorem pow_nodup {p : Nat} (hp : 2 ≤ p) {x : Int} {n : Nat} (o : Ord p x n) : ((List.range n).map (pwm p x)).Nodup := by
  refine List.pairwise_map.mpr ?_
  have h : (List.range n).Pairwise fun i j => i < j := List.pairwise_lt_range
  refine List.Pairwise.imp_of_mem ?_ h
  intro a b ha hb lt
  exact pow_inj hp o lt (List.mem_range.mp hb)
/-- the points of a turned row -/
def ptsOf (p : Nat) (x : Int) (A : List Int) (n : Nat) : List (Int × Int) := (List.range n).map fun k => (pwm p x k, hor p A (pwm p x k))
theorem ptsOf_fst (p : Nat) (x : Int) (A : List Int) (n : Nat) : (ptsOf p x A n).map (·.1) = (List.range n).map (pwm p x) := by
  unfold ptsOf
  rw [List.map_map]
  rfl
theorem ptsOf_snd (p : Nat) (x : Int) (A : List Int) : (ptsOf p x A A.length).map (·.2) = spn p x A := by
  unfold ptsOf spn
  rw [List.map_map]
  rfl
theorem thru_turned {p : Nat} (G : Good p) {x : Int} {A r : List Int} (o : Ord p x A.length) (hA : ∀ z ∈ A, 0 ≤ z ∧ z < (p : Int)) (hl : r.length = A.length) (hr : ∀ z ∈ r, 0 ≤ z ∧ z < (p : Int))
    (h : ∀ q ∈ ptsOf p x A A.length, hor p r q.1 = q.2) : r = A := by
  refine thru_uniq G (xs := (List.range A.length).map (pwm p x)) (by rw [List.length_map, List.length_range]; exact hl) (by rw [List.length_map, List.length_range]) hr hA (pow_nodup G.two o) ?_ ?_
  · intro z hz
    obtain ⟨k, _, rfl⟩ := List.mem_map.mp hz
    exact pwm_bd (by have := G.two; omega) _ _
  · intro z hz
    obtain ⟨k, hk, rfl⟩ := List.mem_map.mp hz
    exact h (pwm p x k, hor p A (pwm p x k)) (List.mem_map.mpr ⟨k, hk, rfl⟩)
theorem ring_plain {p : Nat} {A B : List Int} (hB : B.length = A.length) (hn : 0 < A.length) :
    ringL p A B = (List.range A.length).map fun k => (at0 (mulL p A B ++ [0]) k + at0 (mulL p A B ++ [0]) (k + A.length)) % (p : Int) := by
  have lM : (mulL p A B).length = A.length + A.length - 1 := by rw [mulL_len, hB]
  have ap : ∀ j, j < A.length + A.length → at0 (mulL p A B ++ [0]) j = at0 (mulL p A B) j := fun j hj => by
    by_cases c : j < (mulL p A B).length
    · refine at0_of ?_
      rw [List.getElem?_append_left c]
      exact at0_get c
    · rw [at0_out (l := mulL p A B) (by omega)]
      refine at0_of ?_
      rw [List.getElem?_append_right (by omega), show j - (mulL p A B).length = 0 by omega]
      rfl
  refine ext0 (ringL_len ..) (by rw [List.length_map, List.length_range]) fun k hk => ?_
  rw [at0_map hk, ap k (by omega), ap (k + A.length) (by omega)]
  unfold ringL foldL
  rw [at0_map hk]
  congr 1
  have e0 : S (fun m => if m % A.length = k then at0 (mulL p A B) m else 0) (mulL p A B).length = S (fun m => if m % A.length = k then at0 (mulL p A B) m else 0) (A.length + A.length) := by
    have e : A.length + A.length = (mulL p A B).length + 1 := by omega
    rw [e, S_succ, at0_out (Nat.le_refl _)]
    have z : (if (mulL p A B).length % A.length = k then (0 : Int) else 0) = 0 := by split <;> rfl
    rw [z]
    exact (int_add0 _).symm
  rw [e0, S_split]
  have e1 : S (fun m => if m % A.length = k then at0 (mulL p A B) m else 0) A.length = at0 (mulL p A B) k :=
    S_pick (fun m => at0 (mulL p A B) m) (fun m => m % A.length = k) k A.length hk fun i hi => by rw [Nat.mod_eq_of_lt hi]
  have e2 : S (fun i => if (A.length + i) % A.length = k then at0 (mulL p A B) (A.length + i) else 0) A.length = at0 (mulL p A B) (A.length + k) :=
    S_pick (fun i => at0 (mulL p A B) (A.length + i)) (fun i => (A.length + i) % A.length = k) k A.length hk fun i hi => by rw [Nat.add_mod_left, Nat.mod_eq_of_lt hi]
  rw [e1, e2, Nat.add_comm A.length k]
end Spm

namespace Spm
open Lean.Grind
/-! Law 12: long products by figures. -/
def Figs (A : List Int) : Prop := ∀ z ∈ A, 0 ≤ z ∧ z ≤ 9
/-- the sum at a place, over the whole numbers -/
def cf (A B : List Int) (k : Nat) : Int := P A.length B.length (at0 A) (at0 B) k
def cr (A B : List Int) : Nat → Int
  | 0 => 0
  | k + 1 => (cr A B k + cf A B k) / 10
def prodL (A B : List Int) : List Int := (List.range (A.length + B.length)).map fun k => (cr A B k + cf A B k) % 10
theorem prodL_len (A B : List Int) : (prodL A B).length = A.length + B.length := by
  unfold prodL
  rw [List.length_map, List.length_range]
theorem cf_comm (A B : List Int) (k : Nat) : cf B A k = cf A B k := P_comm _ _ _ _ _
theorem cr_comm (A B : List Int) : ∀ k, cr B A k = cr A B k
  | 0 => rfl
  | k + 1 => by
    show (cr B A k + cf B A k) / 10 = (cr A B k + cf A B k) / 10
    rw [cr_comm A B k, cf_comm]
theorem prodL_comm (A B : List Int) : prodL B A = prodL A B := by
  unfold prodL
  rw [Nat.add_comm]
  refine List.map_congr_left fun k _ => ?_
  rw [cr_comm, cf_comm]
/-- what a figure row tells -/
def told (A : List Int) : Int := A.foldr (fun c a => 10 * a + c) 0
theorem told_cons (c : Int) (A : List Int) : told (c :: A) = 10 * told A + c := rfl
theorem told_drop {A : List Int} {z : Int} {i : Nat} (hi : i < A.length) (h : A[A.length - 1 - i]? = some z) : told (A.drop (A.length - (i + 1))) = 10 * told (A.drop (A.length - i)) + z := by
  have e1 : A.length - (i + 1) = A.length - 1 - i := by omega
  have e2 : A.length - i = A.length - 1 - i + 1 := by omega
  rw [e1, e2]
  obtain ⟨hl, e⟩ := List.getElem?_eq_some_iff.mp h
  rw [List.drop_eq_getElem_cons hl, e, told_cons]
theorem told_bd : ∀ {A : List Int}, Figs A → 0 ≤ told A ∧ told A < 10 ^ A.length
  | [], _ => by show (0 : Int) ≤ 0 ∧ (0 : Int) < 10 ^ 0; decide
  | c :: A, h => by
    obtain ⟨a, b⟩ := told_bd (A := A) fun z hz => h z (List.mem_cons_of_mem _ hz)
    have c0 := h c (List.mem_cons_self ..)
    rw [told_cons, List.length_cons, Int.pow_succ]
    generalize told A = t at a b ⊢
    generalize (10 : Int) ^ A.length = u at b ⊢
    omega
theorem told_S : ∀ A : List Int, told A = S (fun k => at0 A k * 10 ^ k) A.length
  | [] => rfl
  | c :: A => by
    rw [told_cons, told_S A, List.length_cons, S_left, ← S_mul]
    have e : S (fun i => (10 : Int) * (at0 A i * 10 ^ i)) A.length = S (fun i => at0 (c :: A) (i + 1) * 10 ^ (i + 1)) A.length := S_congr fun i _ => by
      have e2 : at0 (c :: A) (i + 1) = at0 A i := rfl
      rw [e2, Int.pow_succ]
      generalize (10 : Int) ^ i = u
      generalize at0 A i = v
      rw [← Int.mul_assoc, Int.mul_comm 10 v, Int.mul_assoc, Int.mul_comm 10 u]
    rw [e]
    have e3 : at0 (c :: A) 0 = c := rfl
    rw [e3, Int.pow_zero]
    generalize S (fun i => at0 (c :: A) (i + 1) * 10 ^ (i + 1)) A.length = t
    show t + c = c * 1 + t
    omega
theorem S_bd {f : Nat → Int} {M : Int} : ∀ {n : Nat}, (∀ i, i < n → 0 ≤ f i ∧ f i ≤ M) → 0 ≤ S f n ∧ S f n ≤ n * M
  | 0, _ => by
    rw [S_zero]
    show (0 : Int) ≤ 0 ∧ (0 : Int) ≤ ((0 : Nat) : Int) * M
    simp
  | n + 1, h => by
    obtain ⟨a, b⟩ := S_bd (f := f) (n := n) fun i hi => h i (by omega)
    have c := h n (by omega)
    rw [S_succ]
    have e : ((n + 1 : Nat) : Int) * M = n * M + M := by
      rw [show ((n + 1 : Nat) : Int) = (n : Int) + 1 from rfl, Int.add_mul, Int.one_mul]
    rw [e]
    generalize (n : Int) * M = u at b ⊢
    generalize S f n = v at a b ⊢
    show 0 ≤ v + f n ∧ v + f n ≤ u + M
    omega
theorem cf_bd {A B : List Int} (hA : Figs A) (hB : Figs B) (k : Nat) : 0 ≤ cf A B k ∧ cf A B k ≤ A.length * 81 := by
  refine S_bd fun i hi => ?_
  have a := hA _ (List.mem_of_getElem? (at0_get hi))
  by_cases c : i ≤ k ∧ k - i < B.length
  · have e : S (fun j => if i + j = k then at0 A i * at0 B j else 0) B.length = at0 A i * at0 B (k - i) :=
      S_pick (fun j => at0 A i * at0 B j) (fun j => i + j = k) (k - i) B.length c.2 fun j _ => by omega
    rw [e]
    have b := hB _ (List.mem_of_getElem? (at0_get c.2))
    refine ⟨Int.mul_nonneg a.1 b.1, ?_⟩
    have q : at0 A i * at0 B (k - i) ≤ 9 * 9 := Int.mul_le_mul a.2 b.2 b.1 (by decide)
    exact q
  · rw [S_eq0 fun j hj => by rw [if_neg (by omega)]]
    show (0 : Int) ≤ 0 ∧ (0 : Int) ≤ 81
    decide
theorem cr_bd {A B : List Int} (hA : Figs A) (hB : Figs B) : ∀ k, 0 ≤ cr A B k
  | 0 => Int.le_refl _
  | k + 1 => by
    have a := cr_bd hA hB k
    have b := (cf_bd hA hB k).1
    show 0 ≤ (cr A B k + cf A B k) / 10
    omega
theorem carry_sum (A B : List Int) : ∀ m, S (fun k => ((cr A B k + cf A B k) % 10) * 10 ^ k) m + 10 ^ m * cr A B m = S (fun k => cf A B k * 10 ^ k) m
  | 0 => by
    rw [S_zero, S_zero]
    show (0 : Int) + 10 ^ 0 * 0 = 0
    simp
  | m + 1 => by
    have ih := carry_sum A B m
    rw [S_succ, S_succ, ← ih]
    have e : cr A B (m + 1) = (cr A B m + cf A B m) / 10 := rfl
    rw [e, Int.pow_succ]
    have d := Int.emod_add_mul_ediv (cr A B m + cf A B m) 10
    generalize S (fun k => ((cr A B k + cf A B k) % 10) * 10 ^ k) m = s
    generalize (10 : Int) ^ m = u
    generalize (cr A B m + cf A B m) / 10 = q at d ⊢
    generalize (cr A B m + cf A B m) % 10 = r at d ⊢
    generalize cr A B m = x at d ⊢
    generalize cf A B m = y at d ⊢
    have d2 : y = r + 10 * q - x := by omega
    rw [d2]
    show s + r * u + u * 10 * q = s + u * x + (r + 10 * q - x) * u
    grind
theorem prodL_told {A B : List Int} (hA : Figs A) (hB : Figs B) : told (prodL A B) = told A * told B ∧ Figs (prodL A B) := by
  have hF : Figs (prodL A B) := by
    intro z hz
    obtain ⟨k, _, rfl⟩ := List.mem_map.mp hz
    omega
  refine ⟨?_, hF⟩
  have e := carry_sum A B (A.length + B.length)
  have e1 : S (fun k => cf A B k * 10 ^ k) (A.length + B.length) = told A * told B := by
    rw [told_S A, told_S B]
    exact P_ev (fun i j hi hj => by omega) (at0 A) (at0 B) (10 : Int)
  have e2 : S (fun k => ((cr A B k + cf A B k) % 10) * 10 ^ k) (A.length + B.length) = told (prodL A B) := by
    rw [told_S, prodL_len]
    refine S_congr fun k hk => ?_
    have q : at0 (prodL A B) k = (cr A B k + cf A B k) % 10 := by
      unfold prodL
      rw [at0_map hk]
    rw [q]
  rw [e1, e2] at e
  have b := told_bd hF
  have bA := told_bd hA
  have bB := told_bd hB
  have c := cr_bd hA hB (A.length + B.length)
  have lt : told A * told B < 10 ^ (A.length + B.length) := by
    rw [Int.pow_add]
    by_cases z : told B = 0
    · rw [z, Int.mul_zero]
      exact Int.mul_pos (Int.pow_pos (by decide)) (Int.pow_pos (by decide))
    · have h1 : told A * told B < 10 ^ A.length * told B := Int.mul_lt_mul_of_pos_right bA.2 (by omega)
      have h2 : (10 : Int) ^ A.length * told B ≤ 10 ^ A.length * 10 ^ B.length := Int.mul_le_mul_of_nonneg_left (by omega) (Int.le_of_lt (Int.pow_pos (by decide)))
      omega
  have z : cr A B (A.length + B.length) = 0 := by
    by_cases y : cr A B (A.length + B.length) = 0
    · exact y
    · have h1 : (10 : Int) ^ (A.length + B.length) * 1 ≤ 10 ^ (A.length + B.length) * cr A B (A.length + B.length) := Int.mul_le_mul_of_nonneg_left (by omega) (Int.le_of_lt (Int.pow_pos (by decide)))
      have e' : told (prodL A B) + 10 ^ (A.length + B.length) * cr A B (A.length + B.length) = told A * told B := e
      generalize (10 : Int) ^ (A.length + B.length) * cr A B (A.length + B.length) = g at h1 e'
      generalize (10 : Int) ^ (A.length + B.length) = u at h1 lt
      omega
  rw [z] at e
  have e' : told (prodL A B) + 10 ^ (A.length + B.length) * 0 = told A * told B := e
  rw [Int.mul_zero, Int.add_zero] at e'
  exact e'
end Spm

namespace Spm
open Lean.Grind
/-! Law 4: how many roots. -/
theorem sorted_one : ∀ {l m : List Int}, l.Perm m → l.Pairwise (· ≤ ·) → m.Pairwise (· ≤ ·) → l = m
  | [], m, h, _, _ => (List.Perm.nil_eq h)
  | x :: l, m, h, a, b => by
    obtain ⟨y, m', rfl⟩ : ∃ y m', m = y :: m' := by
      cases m with
      | nil => exact absurd h.length_eq (by simp)
      | cons y m' => exact ⟨y, m', rfl⟩
    have hx : x ∈ y :: m' := h.mem_iff.mp (List.mem_cons_self ..)
    have hy : y ∈ x :: l := h.mem_iff.mpr (List.mem_cons_self ..)
    have e : x = y := by
      rcases List.mem_cons.mp hx with e | e
      · exact e
      · rcases List.mem_cons.mp hy with e2 | e2
        · exact e2.symm
        · have h1 := (List.pairwise_cons.mp a).1 y e2
          have h2 := (List.pairwise_cons.mp b).1 x e
          omega
    subst e
    rw [sorted_one (List.Perm.cons_inv h) (List.pairwise_cons.mp a).2 (List.pairwise_cons.mp b).2]
theorem sorted_set {l m : List Int} (nl : l.Nodup) (nm : m.Nodup) (h : ∀ x, x ∈ l ↔ x ∈ m) : l.Perm m := (List.perm_ext_iff_of_nodup nl nm).mpr h
/-- the numbers from 1 on, below a bound, of a kind -/
def upTo (n : Nat) (c : Nat → Bool) : List Int := ((List.range n).filter c).map fun j : Nat => (1 : Int) + (j : Int)
theorem upTo_lt (n : Nat) (c : Nat → Bool) : (upTo n c).Pairwise (· < ·) := by
  unfold upTo
  refine List.pairwise_map.mpr ?_
  refine List.Pairwise.imp ?_ (List.Pairwise.filter c (List.pairwise_lt_range (n := n)))
  intro a b h
  omega
theorem upTo_nodup (n : Nat) (c : Nat → Bool) : (upTo n c).Nodup := (upTo_lt n c).imp fun h => Int.ne_of_lt h
theorem upTo_le (n : Nat) (c : Nat → Bool) : (upTo n c).Pairwise (· ≤ ·) := (upTo_lt n c).imp fun h => Int.le_of_lt h
theorem upTo_mem {n : Nat} {c : Nat → Bool} {x : Int} : x ∈ upTo n c ↔ 1 ≤ x ∧ x ≤ n ∧ c (x - 1).toNat = true := by
  unfold upTo
  constructor
  · intro h
    obtain ⟨j, hj, rfl⟩ := List.mem_map.mp h
    obtain ⟨h1, h2⟩ := List.mem_filter.mp hj
    have h3 := List.mem_range.mp h1
    refine ⟨by omega, by omega, ?_⟩
    rw [show ((1 : Int) + (j : Int) - 1).toNat = j by omega]
    exact h2
  · rintro ⟨h1, h2, h3⟩
    exact List.mem_map.mpr ⟨(x - 1).toNat, List.mem_filter.mpr ⟨List.mem_range.mpr (by omega), h3⟩, by omega⟩
theorem upTo_yes {i : Nat} {c : Nat → Bool} (h : c i = true) : upTo (i + 1) c = upTo i c ++ [1 + (i : Int)] := by
  unfold upTo
  rw [List.range_succ, List.filter_append, List.map_append, List.filter_cons, if_pos h]
  rfl
theorem upTo_no {i : Nat} {c : Nat → Bool} (h : ¬ c i = true) : upTo (i + 1) c = upTo i c := by
  unfold upTo
  rw [List.range_succ, List.filter_append, List.map_append, List.filter_cons, if_neg h]
  exact List.append_nil _
theorem upTo_len (n : Nat) (c : Nat → Bool) : (upTo n c).length ≤ n := by
  unfold upTo
  rw [List.length_map]
  exact Nat.le_trans (List.length_filter_le _ _) (by rw [List.length_range]; exact Nat.le_refl _)
theorem rootsL_upTo (p : Nat) (size : Int) : rootsL p size = upTo (p - 1) fun j => decide ((ordF p (1 + (j : Int)) : Int) = size) := rfl
theorem mem_roots {p : Nat} (G : Good p) {n : Nat} {x : Int} : x ∈ rootsL p n ↔ 1 ≤ x ∧ x < p ∧ Ord p x n := by
  have hp := G.two
  rw [rootsL_upTo, upTo_mem]
  constructor
  · rintro ⟨h1, h2, h3⟩
    have e : (1 : Int) + (((x - 1).toNat : Nat) : Int) = x := by omega
    rw [e, decide_eq_true_eq] at h3
    have o := ordF_ok G (a := x) (by omega) (by omega)
    refine ⟨h1, by omega, ?_⟩
    have e2 : ordF p x = n := by omega
    rw [← e2]
    exact o
  · rintro ⟨h1, h2, o⟩
    refine ⟨h1, by omega, ?_⟩
    have e : (1 : Int) + (((x - 1).toNat : Nat) : Int) = x := by omega
    rw [e, decide_eq_true_eq, (ordF_ok G (a := x) (by omega) h2).uniq o]
/-! ### the powers of a root -/
theorem pow_eq_mod {p : Nat} (hp : 2 ≤ p) {x : Int} {n : Nat} (o : Ord p x n) {i j : Nat} (hij : i ≤ j) (e : pwm p x i = pwm p x j) : (j - i) % n = 0 := by
  haveI : NeZero p := ⟨by omega⟩
  have r := o.root (fhom p) hp
  refine (r.eq1 _).mp ?_
  have e1 : (fhom p).ph x ^ i = (fhom p).ph x ^ j := by rw [← pwm_ph, ← pwm_ph, e]
  have hn := o.pos
  have a : (fhom p).ph x ^ (n * i - i) * (fhom p).ph x ^ i = 1 := by
    have : i ≤ n * i := Nat.le_mul_of_pos_left _ hn
    rw [← pw_add, Nat.sub_add_cancel this, pw_mul, r.one, pw_one]
  have b : (fhom p).ph x ^ (n * i - i) * (fhom p).ph x ^ j = (fhom p).ph x ^ (j - i) := by
    have h1 : i ≤ n * i := Nat.le_mul_of_pos_left _ hn
    rw [← pw_add, show n * i - i + j = n * i + (j - i) by omega, pw_add, pw_mul, r.one, pw_one]
    grind
  rw [← b, ← e1, a]
theorem ord_pow {p : Nat} (hp : 2 ≤ p) {x : Int} {n : Nat} (o : Ord p x n) (i : Nat) : Ord p (pwm p x i) n ↔ Nat.gcd i n = 1 := by
  haveI : NeZero p := ⟨by omega⟩
  have r := o.root (fhom p) hp
  have hn := o.pos
  constructor
  · intro h
    have q := h.root (fhom p) hp
    have g0 : 0 < Nat.gcd i n := Nat.gcd_pos_of_pos_right _ hn
    by_cases c : Nat.gcd i n = 1
    · exact c
    · exfalso
      have dn : Nat.gcd i n ∣ n := Nat.gcd_dvd_right _ _
      have di : Nat.gcd i n ∣ i := Nat.gcd_dvd_left _ _
      obtain ⟨m, hm⟩ := dn
      obtain ⟨k, hk⟩ := di
      have m0 : 0 < m := by
        rcases Nat.eq_zero_or_pos m with z | z
        · rw [z, Nat.mul_zero] at hm; omega
        · exact z
      have mn : m < n := by
        have h2 : 2 ≤ Nat.gcd i n := by omega
        have h3 : 2 * m ≤ Nat.gcd i n * m := Nat.mul_le_mul_right _ h2
        rw [← hm] at h3
        omega
      refine q.low m m0 mn ?_
      rw [pwm_ph, ← pw_mul, r.eq1]
      have e : i * m = k * n := by
        have e1 : i * m = Nat.gcd i n * k * m := by rw [← hk]
        have e2 : k * n = k * (Nat.gcd i n * m) := by rw [← hm]
        rw [e1, e2, Nat.mul_comm (Nat.gcd i n) k, Nat.mul_assoc]
      rw [e, Nat.mul_mod_left]
  · intro h
    refine .of_root (fhom p) hp ⟨hn, ?_, fun k k0 kn e => ?_⟩
    · rw [pwm_ph, ← pw_mul, Nat.mul_comm, pw_mul, r.one, pw_one]
    · rw [pwm_ph, ← pw_mul, r.eq1] at e
      have d : n ∣ i * k := Nat.dvd_of_mod_eq_zero e
      have cp : Nat.Coprime n i := by
        unfold Nat.Coprime
        rw [Nat.gcd_comm]
        exact h
      have d2 : n ∣ k := cp.dvd_of_dvd_mul_left d
      have := Nat.le_of_dvd k0 d2
      omega
theorem ev_last {R : Type} [CommRing R] (x : R) : ∀ n : Nat, ev (List.replicate n (0 : R) ++ [1]) x = x ^ n
  | 0 => by
    show 1 + x * 0 = x ^ 0
    rw [pw_zero]; grind
  | n + 1 => by
    show 0 + x * ev (List.replicate n (0 : R) ++ [1]) x = x ^ (n + 1)
    rw [ev_last x n, pw_succ]; grind
/-- a rest whose power by the size is 1 is a power of the root -/
theorem all_powers {p : Nat} (G : Good p) {r : Int} {n : Nat} (o : Ord p r n) {x : Int} (x0 : 0 ≤ x) (x1 : x < p) (h : pwm p x n = 1) : ∃ i, i < n ∧ x = pwm p r i := by
  have hp := G.two
  haveI : NeZero p := ⟨by omega⟩
  have D := G.dom (fhom p)
  have hn := o.pos
  have rr := o.root (fhom p) hp
  by_cases c : x ∈ (List.range n).map (pwm p r)
  · obtain ⟨i, hi, e⟩ := List.mem_map.mp c
    exact ⟨i, List.mem_range.mp hi, e.symm⟩
  · exfalso
    obtain ⟨m, rfl⟩ : ∃ m, n = m + 1 := ⟨n - 1, by omega⟩
    have nd : (x :: (List.range (m + 1)).map (pwm p r)).Nodup := List.nodup_cons.mpr ⟨c, pow_nodup hp o⟩
    have bd : ∀ z ∈ x :: (List.range (m + 1)).map (pwm p r), 0 ≤ z ∧ z < (p : Int) := fun z hz => by
      rcases List.mem_cons.mp hz with e | e
      · rw [e]; exact ⟨x0, x1⟩
      · obtain ⟨i, _, e2⟩ := List.mem_map.mp e
        rw [← e2]
        exact pwm_bd (by omega) _ _
    have nd2 : ((x :: (List.range (m + 1)).map (pwm p r)).map (fhom p).ph).Nodup := by
      refine List.pairwise_map.mpr ?_
      refine List.Pairwise.imp_of_mem ?_ nd
      intro a b ha hb ne q
      exact ne ((fhom p).eq (bd a ha) (bd b hb) q)
    have z := ev_zero D ((x :: (List.range (m + 1)).map (pwm p r)).map (fhom p).ph) ((-1) :: (List.replicate m (0 : Fin p) ++ [1])) (by simp) nd2 (by
      intro y hy
      have key : y ^ (m + 1) = 1 := by
        obtain ⟨w, hw, rfl⟩ := List.mem_map.mp hy
        rcases List.mem_cons.mp hw with e | e
        · rw [e, ← pwm_ph, h, (fhom p).one]
        · obtain ⟨i, _, e2⟩ := List.mem_map.mp e
          rw [← e2, pwm_ph, ← pw_mul, Nat.mul_comm, pw_mul, rr.one, pw_one]
      show -1 + y * ev (List.replicate m (0 : Fin p) ++ [1]) y = 0
      rw [ev_last]
      have e3 : y * y ^ m = y ^ (m + 1) := by rw [pw_succ]; grind
      rw [e3, key]
      grind)
    have one0 : (1 : Fin p) = 0 := z 1 (List.mem_cons_of_mem _ (List.mem_append_right _ (List.mem_singleton.mpr rfl)))
    rw [← (fhom p).one] at one0
    have := ((fhom p).ne0 ⟨by omega, by omega⟩).mp one0
    omega
/-- the numbers to the size without a part in common with it -/
def freeL (n : Nat) : List Int := upTo n fun j => decide (Nat.gcd (1 + j) n = 1)
theorem free_powers {p : Nat} (G : Good p) {r : Int} {n : Nat} (r0 : 0 < r) (r1 : r < p) (o : Ord p r n) : ((freeL n).map fun k => pwm p r k.toNat).Perm (rootsL p n) := by
  have hp := G.two
  have hn := o.pos
  refine sorted_set ?_ ?_ fun x => ?_
  · refine List.pairwise_map.mpr ?_
    refine List.Pairwise.imp_of_mem ?_ (upTo_lt n _)
    intro a b ha hb lt e
    have h1 := upTo_mem.mp ha
    have h2 := upTo_mem.mp hb
    have q := pow_eq_mod hp o (by omega) e
    rw [Nat.mod_eq_of_lt (by omega)] at q
    omega
  · rw [rootsL_upTo]
    exact upTo_nodup _ _
  · rw [mem_roots G]
    constructor
    · intro h
      obtain ⟨k, hk, rfl⟩ := List.mem_map.mp h
      obtain ⟨h1, h2, h3⟩ := upTo_mem.mp hk
      rw [decide_eq_true_eq, show 1 + (k - 1).toNat = k.toNat by omega] at h3
      obtain ⟨b0, b1⟩ := pwm_pos G r0 r1 k.toNat
      exact ⟨b0, b1, (ord_pow hp o _).mpr h3⟩
    · rintro ⟨h1, h2, h3⟩
      obtain ⟨i, hi, rfl⟩ := all_powers G o (by omega) h2 h3.one
      have g := (ord_pow hp o i).mp h3
      by_cases c : i = 0
      · -- then the size is 1
        subst c
        rw [Nat.gcd_zero_left] at g
        subst g
        refine List.mem_map.mpr ⟨1, upTo_mem.mpr ⟨by omega, by omega, by decide⟩, ?_⟩
        show pwm p r 1 = pwm p r 0
        rw [pwm_zero hp]
        exact o.one
      · refine List.mem_map.mpr ⟨(i : Int), upTo_mem.mpr ⟨by omega, by omega, ?_⟩, by rw [Int.toNat_natCast]⟩
        rw [decide_eq_true_eq, show 1 + ((i : Int) - 1).toNat = i by omega]
        exact g
/-- the rests whose power by the size is 1 -/
def onesL (p n : Nat) : List Int := upTo (p - 1) fun j => decide (pwm p (1 + (j : Int)) n = 1)
theorem powers_ones {p : Nat} (G : Good p) {r : Int} {n : Nat} (r0 : 0 < r) (r1 : r < p) (o : Ord p r n) : ((List.range n).map (pwm p r)).Perm (onesL p n) := by
  have hp := G.two
  haveI : NeZero p := ⟨by omega⟩
  have rr := o.root (fhom p) hp
  refine sorted_set (pow_nodup hp o) (upTo_nodup _ _) fun x => ?_
  unfold onesL
  rw [upTo_mem]
  constructor
  · intro h
    obtain ⟨i, _, rfl⟩ := List.mem_map.mp h
    obtain ⟨b0, b1⟩ := pwm_pos G r0 r1 i
    refine ⟨b0, by omega, ?_⟩
    rw [decide_eq_true_eq, show (1 : Int) + (((pwm p r i - 1).toNat : Nat) : Int) = pwm p r i by omega]
    show pwm p r i ^ n % (p : Int) = 1
    rw [← (fhom p).is1 hp, (fhom p).pow, pwm_ph, ← pw_mul, Nat.mul_comm, pw_mul, rr.one, pw_one]
  · rintro ⟨h1, h2, h3⟩
    rw [decide_eq_true_eq, show (1 : Int) + (((x - 1).toNat : Nat) : Int) = x by omega] at h3
    obtain ⟨i, hi, e⟩ := all_powers G o (by omega) (by omega) h3
    exact List.mem_map.mpr ⟨i, List.mem_range.mpr hi, e.symm⟩
end Spm

namespace Spw
open PySem PySem.Spec PyProof.Rows L2 Spm
/-! What all defs share: lists of whole numbers, the field's object, tests that are known. -/
abbrev il (ns : List Int) : List V := ns.map V.int
def ff (p : Int) : List (Str × V) := putF "prime" (.int p) []
theorem ff_prime (p : Int) : (ff p).lookup ("prime" : Str) = some (.int p) := by
  unfold ff
  rw [lookup_putF, if_pos rfl]
theorem ff_no (p : Int) {m : Str} (h : ¬ m = "prime") : (ff p).lookup m = none := by
  unfold ff
  rw [lookup_putF, if_neg h]
  all_goals rfl
/-- a field by p stands at a -/
def FieldAt (C : Addr) (H : Hp) (a : Addr) (p : Int) : Prop := ∃ dx, H a = some (.ins C dx (ff p))
theorem FieldAt.same {C a : Addr} {H H' : Hp} {p : Int} (s : Same H H') (h : FieldAt C H a p) : FieldAt C H' a p := by
  obtain ⟨dx, e⟩ := h
  exact ⟨dx, s _ _ e⟩
theorem iteD {c : Prop} [Decidable c] {A B : Prop} (hc : c) (h : A) : if decide c = true then A else B := by
  rw [decide_eq_true hc, if_pos rfl]
  exact h
theorem iteDF {c : Prop} [Decidable c] {A B : Prop} (hc : ¬ c) (h : B) : if decide c = true then A else B := by
  rw [decide_eq_false hc, if_neg Bool.false_ne_true]
  exact h
theorem iteNF {c : Prop} [Decidable c] {A B : Prop} (hc : ¬ c) (h : A) : if (!decide c) = true then A else B := by
  rw [decide_eq_false hc]
  exact iteT h
theorem same_upd {H : Hp} {p : Addr} {o : HO} (h : H p = none) : Same H (upd H p o) := fun b x e => by
  rw [upd_ne (ne_of_none e h)]
  exact e
/-- a store to what is new -/
theorem _root_.L2.Same.over {H H' : Hp} {p : Addr} {o : HO} (s : Same H H') (h : H p = none) : Same H (upd H' p o) := fun b x e => by
  rw [upd_ne (ne_of_none e h)]
  exact s b x e
theorem sql {K : PySem.W.Frag} {H : Hp} {a : Addr} {xs : List V} (h : H a = some (.lst xs)) : SqL K H a xs := .inl (.inl h)
theorem sqt {K : PySem.W.Frag} {H : Hp} {a : Addr} {xs : List V} (h : H a = some (.tup xs)) : SqT K H a xs := .inl (.inl h)
/-- an item of a list of numbers -/
theorem il_at {ns : List Int} {i : Nat} {x : V} (h : (il ns)[i]? = some x) : ∃ z, ns[i]? = some z ∧ x = .int z := by
  unfold il at h
  rw [List.getElem?_map] at h
  cases e : ns[i]? with
  | none =>
    rw [e] at h
    cases h
  | some z =>
    rw [e] at h
    exact ⟨z, rfl, (Option.some.inj h).symm⟩
theorem at_il {ns : List Int} {i : Nat} {z : Int} (h : ns[i]? = some z) : (il ns)[i]? = some (.int z) := by
  unfold il
  rw [List.getElem?_map, h]
  rfl
theorem il_len {ns : List Int} : (il ns).length = ns.length := List.length_map ..
/-- what is promised: a whole number, a list of whole numbers that is new -/
def RInt (H : Hp) (Q : VK) (z : Int) : Prop := ∀ H', Same H H' → Q (.int z) H'
def RNon (H : Hp) (Q : VK) : Prop := ∀ H', Same H H' → Q .non H'
def RBl (H : Hp) (Q : VK) (b : Bool) : Prop := ∀ H', Same H H' → Q (.bl b) H'
def RLst (H : Hp) (Q : VK) (ns : List Int) : Prop := ∀ H' l, Same H H' → H l = none → H' l = some (.lst (il ns)) → Q (.ref l) H'
/-- rests by p -/
def Rests (p : Int) (ns : List Int) : Prop := ∀ x ∈ ns, 0 ≤ x ∧ x < p
theorem Rests.at_ {p : Int} {ns : List Int} (h : Rests p ns) {i : Nat} {z : Int} (e : ns[i]? = some z) : 0 ≤ z ∧ z < p := h z (List.mem_of_getElem? e)
end Spw
namespace Spw
open PySem PySem.Spec PyProof.Rows L2 Spm
/-- over a list from its end -/
theorem for_rev {K : PySem.W.Frag} {a : Addr} {xs : List V} {g : TG} {tb : TS} {D : Ends} {σ : L2.St} {H : Hp} (Pv : Nat → L2.St → Hp → Prop) (h0 : Pv 0 σ H) (hl : ∀ i σ H, i ≤ xs.length → Pv i σ H → SqL K H a xs)
    (hs : ∀ i x σ H, i < xs.length → xs[xs.length - 1 - i]? = some x → Pv i σ H → g x σ H fun σ2 H2 => tb { D with nx := Pv (i + 1), ct := Pv (i + 1), bk := D.nx } σ2 H2) (hd : ∀ σ H, Pv xs.length σ H → D.nx σ H) :
    ∃ W : Nat → Nat → L2.St → Hp → Prop, (∃ m, W 0 m σ H) ∧ ∀ i m σ H, W i m σ H →
      ((Itv K a xs.length).stop i H ∧ D.nx σ H) ∨ ((Itv K a xs.length).go i H ∧ ∃ N : L2.St → Hp → Prop, (∀ σ' H', N σ' H' → ∃ m', m' < m ∧ W (i + 1) m' σ' H') ∧ ∀ x H', (Itv K a xs.length).yld i H x H' → g x σ H' fun σ2 H2 => tb { D with nx := N, ct := N, bk := D.nx } σ2 H2) := by
  refine ⟨fun i m σ H => m = xs.length - i ∧ i ≤ xs.length ∧ Pv i σ H, ⟨xs.length, by simp, Nat.zero_le _, h0⟩, ?_⟩
  rintro i m σ H ⟨rfl, hi, p⟩
  have q := hl i σ H hi p
  by_cases hlt : i < xs.length
  · have hn : xs.length - 1 - i < xs.length := by omega
    refine .inr ⟨⟨hlt, xs, xs[xs.length - 1 - i], q, List.getElem?_eq_getElem hn⟩, Pv (i + 1), fun σ' H' p' => ⟨xs.length - (i + 1), by omega, rfl, hlt, p'⟩, fun x H' y => ?_⟩
    obtain ⟨e, y⟩ := y
    subst e
    exact hs i x σ _ hlt (y xs q) p
  · have e : i = xs.length := by omega
    subst e
    exact .inl ⟨Nat.le_refl _, hd σ H p⟩
/-- lists of whole numbers compared -/
theorem dp_il {K : PySem.W.Frag} {H : Hp} : ∀ ns : List Int, DpAll K H (il ns) (ns.map PyData.int)
  | [] => .nil
  | z :: ns => .cons (.int z) (dp_il ns)
theorem dp_ls {K : PySem.W.Frag} {H : Hp} {a : Addr} {ns : List Int} (h : SqL K H a (il ns)) : Dp K H (.ref a) (.list (ns.map PyData.int)) := .lst h (dp_il ns)
theorem eqv_all : ∀ ns ms : List Int, PyData.eqvAll (ns.map PyData.int) (ms.map PyData.int) = decide (ns = ms)
  | [], [] => by simp [PyData.eqvAll]
  | [], _ :: _ => by simp [PyData.eqvAll]
  | _ :: _, [] => by simp [PyData.eqvAll]
  | z :: ns, y :: ms => by
    have ih := eqv_all ns ms
    simp only [List.map_cons, PyData.eqvAll, PyData.eqv]
    rw [ih]
    by_cases h1 : z = y
    · subst h1; simp
    · simp [h1]
theorem eqv_il (ns ms : List Int) : PyData.eqv (.list (ns.map PyData.int)) (.list (ms.map PyData.int)) = decide (ns = ms) := by
  have e := eqv_all ns ms
  simp only [PyData.eqv]
  exact e
theorem lay_all : ∀ ns : List Int, PyData.canLayAll0 (ns.map PyData.int) = true ∧ PyData.depthAll (ns.map PyData.int) ≤ 1
  | [] => by simp [PyData.canLayAll0, PyData.depthAll]
  | z :: ns => by
    obtain ⟨h1, h2⟩ := lay_all ns
    simp only [List.map_cons, PyData.canLayAll0, PyData.depthAll, PyData.canLay0, PyData.depth, h1, Bool.and_self, true_and]
    omega
theorem shaped_all (ns : List Int) : SeqAt.shaped (.list (ns.map PyData.int)) = true := by
  obtain ⟨h1, h2⟩ := lay_all ns
  have e1 : PyData.canLay0 (.list (ns.map PyData.int)) = true := by simp only [PyData.canLay0]; exact h1
  have e2 : PyData.depth (.list (ns.map PyData.int)) ≤ 64 := by
    simp only [PyData.depth]
    exact Nat.le_trans (Nat.add_le_add_right h2 1) (by decide)
  unfold SeqAt.shaped
  rw [e1, decide_eq_true e2]
  rfl
end Spw
namespace Spw
open PySem PySem.Spec PyProof.Rows L2 Spm
theorem line_le {n : Nat} (h : n ≤ 1000) : n ≤ sizeLine := Nat.le_of_lt (small1000 h)
theorem le1 (v : V) : [v].length ≤ sizeLine := line_le (by show 1 ≤ 1000; decide)
theorem le2 (v u : V) : [v, u].length ≤ sizeLine := line_le (by show 2 ≤ 1000; decide)
end Spw
namespace Spw
open PySem PySem.Spec PyProof.Rows L2 Spm
/-- a comprehension without a test -/
theorem lcYes {F Z : Hp → Prop} {σ : L2.St} {H : Hp} (h : F H) : tYes σ H (fun b H3 => if b = true then F H3 else Z H3) := by
  show if true = true then F H else Z H
  rw [if_pos rfl]
  exact h
end Spw
namespace Spw
open PySem PySem.Spec PyProof.Rows L2 Spm
theorem line_le' {n : Nat} (h : n ≤ 2000) : n ≤ sizeLine := Nat.le_trans h (by decide)
theorem ixN_nat' {n j : Nat} (hj : j < n) : ixN n (j : Int) = some j := by
  unfold ixN
  rw [if_pos (by omega), if_pos (by omega)]
  simp
end Spw
namespace Spw
open PySem PySem.Spec PyProof.Rows L2 Spm
/-! the rules that speak of the written part, for a block within a def -/
section
variable {X : Cx} {K : PySem.W.Frag} {e : Expr} {f : Str} {pos : Pos} {ta : TE}
theorem pe_fldK (hK : X.K = K) (he : PE X e ta) (hb : attributeBase e f X.env (eval e X.env) = eval e X.env) : PE X (.Attribute e f pos) (tFld K ta f) := by
  subst hK
  exact pe_fld he hb
theorem ix_listK (hK : X.K = K) : IxR X (rIxL K) := by
  subst hK
  exact ix_list
theorem ix_tupK (hK : X.K = K) : IxR X (rIxT K) := by
  subst hK
  exact ix_tup
theorem call_len_seqK (hK : X.K = K) : CallR X (.builtin "len") (fun xs H Q => ∃ p ys, xs = [.ref p] ∧ (SqL K H p ys ∨ SqT K H p ys) ∧ Q (.int ys.length) H) := by
  subst hK
  exact call_len_seq
end
end Spw
namespace Spw
open PySem PySem.Spec PyProof.Rows L2 Spm
/-- a field made -/
theorem made_same {H : Hp} {x dx C : Addr} {p : Int} (nx : H x = none) (nd : H dx = none) : Same H (upd (upd (upd H dx (.own x)) x (.ins C dx [])) x (.ins C dx (ff p))) := fun b o e => by
  rw [upd_ne (ne_of_none e nx), upd_ne (ne_of_none e nx), upd_ne (ne_of_none e nd)]
  exact e
end Spw
namespace Spw
open PySem PySem.Spec PyProof.Rows L2 Spm
theorem le3 (v u w : V) : [v, u, w].length ≤ sizeLine := line_le (by show 3 ≤ 1000; decide)
end Spw
namespace Spw
open PySem PySem.Spec PyProof.Rows L2 Spm
/-- [number for x in range(..)]: the numbers f 0, f 1, .. -/
theorem lc_rng {lo : Int} {n i : Nat} {te : TE} {vs : List Nat} {σ : L2.St} {H1 : Hp} {D : Addr} {Qd : Hp → Prop} (f : Nat → Int) (hn : n ≤ 1000) (nD : H1 D = none)
    (step : ∀ (j : Nat) (H2 : Hp), j < n → Same H1 H2 → ∀ R : VK, (∀ H4, Same H2 H4 → R (.int (f j)) H4) → te ((wipe σ vs).set i (some (.int (lo + j)))) H2 R)
    (hd : ∀ H', Same H1 H' → H' D = some (.lst (il ((List.range n).map f))) → Qd H')
    (hw : ∀ x : V, wipe ((wipe σ vs).set i (some x)) vs = wipe σ vs := by intro _; rfl) :
    ∃ W : Nat → Nat → Hp → Prop, (∃ m, W 0 m (upd H1 D (.lst []))) ∧ ∀ i' m H, W i' m H →
      ((Itr lo n).stop i' H ∧ Qd H) ∨ ((Itr lo n).go i' H ∧ ∃ Nx : Hp → Prop, (∀ H', Nx H' → ∃ m', m' < m ∧ W (i' + 1) m' H') ∧ ∀ x H', (Itr lo n).yld i' H x H' → gName i x (wipe σ vs) H' fun σ2 H2 => wipe σ2 vs = wipe σ vs ∧ tYes σ2 H2 fun b H3 =>
        if b = true then te σ2 H3 fun y H4 => ∃ acc, H4 D = some (.lst acc) ∧ acc.length < sizeLine ∧ Nx (upd H4 D (.lst (acc ++ [y]))) else Nx H3) := by
  refine lc_range (lo := lo) (n := n) (fun i' H' => Same H1 H' ∧ H' D = some (.lst (il ((List.range i').map f)))) ⟨same_upd nD, upd_same⟩ ?_ ?_
  · rintro j H2 hj ⟨s2, hD⟩
    refine ⟨hw _, lcYes ?_⟩
    refine step j H2 hj s2 _ fun H4 s4 => ?_
    refine ⟨_, s4 _ _ hD, ?_, (s2.trans s4).over nD, ?_⟩
    · rw [il_len, List.length_map, List.length_range]
      exact small1000 (by omega)
    · rw [upd_same, List.range_succ]
      unfold il
      rw [List.map_append, List.map_append]
      rfl
  · rintro H' ⟨s, hD⟩
    exact hd H' s hD
end Spw
namespace Spw
open PySem PySem.Spec PyProof.Rows L2 Spm
theorem sIx_neg (n d : Nat) : HT.sIx n d (some (-1)) = n - 1 := by
  show (if (-1 : Int) < 0 then ((-1 : Int) + (n : Int)).toNat else min (-1 : Int).toNat n) = n - 1
  rw [if_pos (by decide)]
  omega
theorem cut_last (A : List Int) : cutV (il A) (some (-1)) none = il (A.drop (A.length - 1)) := by
  unfold cutV
  rw [sIx_neg, HT.sIx_none, il_len]
  unfold il
  rw [← List.map_drop, ← List.map_take, List.take_of_length_le (by rw [List.length_drop]; omega)]
theorem cut_init (A : List Int) : cutV (il A) none (some (-1)) = il (A.take (A.length - 1)) := by
  unfold cutV
  rw [sIx_neg, HT.sIx_none, il_len, Nat.sub_zero, List.drop_zero]
  unfold il
  rw [← List.map_take]
theorem rep_il (z : Int) : ∀ n : Nat, (List.replicate n [V.int z]).flatten = il (List.replicate n z)
  | 0 => rfl
  | n + 1 => by
    rw [List.replicate_succ, List.flatten_cons, rep_il z n, List.replicate_succ]
    rfl
end Spw
namespace Spw
open PySem PySem.Spec PyProof.Rows L2 Spm
/-- two ways that go on alike -/
theorem share {X : Prop} {G : Nat → Hp → Prop} (Pre : Nat → Hp → Prop) (a : (∀ n H2, Pre n H2 → G n H2) → X) (b : ∀ n H2, Pre n H2 → G n H2) : X := a b
end Spw
namespace Spw
open PySem PySem.Spec PyProof.Rows L2 Spm
/-- a list of two lists of whole numbers -/
def two (A B : List Int) : PyData := .list [.list (A.map PyData.int), .list (B.map PyData.int)]
theorem dp_two {K : PySem.W.Frag} {H : Hp} {a l m : Addr} {A B : List Int} (h : SqL K H a [.ref l, .ref m]) (hl : SqL K H l (il A)) (hm : SqL K H m (il B)) : Dp K H (.ref a) (two A B) :=
  .lst h (.cons (dp_ls hl) (.cons (dp_ls hm) .nil))
theorem lay_two (A B : List Int) : PyData.canLay0 (two A B) = true := by
  unfold two
  simp only [PyData.canLay0, PyData.canLayAll0, (lay_all A).1, (lay_all B).1, Bool.and_self]
theorem shaped_two (A B : List Int) : SeqAt.shaped (two A B) = true := by
  have e2 : PyData.depth (two A B) ≤ 64 := by
    unfold two
    simp only [PyData.depth, PyData.depthAll]
    have a := (lay_all A).2
    have b := (lay_all B).2
    refine Nat.le_trans (m := 3) ?_ (by decide)
    refine Nat.succ_le_succ (Nat.max_le.mpr ⟨Nat.succ_le_succ a, Nat.max_le.mpr ⟨Nat.succ_le_succ b, Nat.zero_le _⟩⟩)
  unfold SeqAt.shaped
  rw [lay_two, decide_eq_true e2]
  rfl
theorem eqv_two (A B : List Int) : PyData.eqv (two A B) (two A B) = true := by
  unfold two
  simp only [PyData.eqv, PyData.eqvAll]
  have a := eqv_all A A
  have b := eqv_all B B
  rw [decide_eq_true rfl] at a b
  simp only [a, b, Bool.and_self]
end Spw
namespace Spw
open PySem PySem.Spec PyProof.Rows L2 Spm
/-- a list at l of pairs of whole numbers, the pairs' tuples at as -/
structure PtsAt (K : PySem.W.Frag) (H : Hp) (l : Addr) (as : List Addr) (pts : List (Int × Int)) : Prop where
  lst : SqL K H l (as.map V.ref)
  len : as.length = pts.length
  at_ : ∀ (i : Nat) (t : Addr), as[i]? = some t → ∃ q, pts[i]? = some q ∧ SqT K H t [.int q.1, .int q.2]
theorem Same.sqt' {K : PySem.W.Frag} {H H' : Hp} {a : Addr} {xs : List V} (e : Same H H') (h : SqT K H a xs) : SqT K H' a xs := by
  rcases h with (h | ⟨o, h⟩) | h
  · exact .inl (.inl (e _ _ h))
  · exact .inl (.inr ⟨o, e _ _ h⟩)
  · exact .inr h
theorem PtsAt.same {K : PySem.W.Frag} {H H' : Hp} {l : Addr} {as : List Addr} {pts : List (Int × Int)} (s : Same H H') (P : PtsAt K H l as pts) : PtsAt K H' l as pts :=
  ⟨s.seq P.lst, P.len, fun i t h => by
    obtain ⟨q, a, b⟩ := P.at_ i t h
    exact ⟨q, a, Same.sqt' s b⟩⟩
theorem ref_at {as : List Addr} {i : Nat} {x : V} (h : (as.map V.ref)[i]? = some x) : ∃ t, as[i]? = some t ∧ x = .ref t := by
  rw [List.getElem?_map] at h
  cases e : as[i]? with
  | none =>
    rw [e] at h
    cases h
  | some t =>
    rw [e] at h
    exact ⟨t, rfl, (Option.some.inj h).symm⟩
end Spw
namespace Spw
open PySem PySem.Spec PyProof.Rows L2 Spm
/-- the same, each tracked -/
structure PtsT (H : Hp) (l : Addr) (as : List Addr) (pts : List (Int × Int)) : Prop where
  lst : H l = some (.lst (as.map V.ref))
  len : as.length = pts.length
  at_ : ∀ (i : Nat) (t : Addr), as[i]? = some t → ∃ q, pts[i]? = some q ∧ H t = some (.tup [.int q.1, .int q.2])
theorem PtsT.at {K : PySem.W.Frag} {H : Hp} {l : Addr} {as : List Addr} {pts : List (Int × Int)} (P : PtsT H l as pts) : PtsAt K H l as pts :=
  ⟨sql P.lst, P.len, fun i t h => by
    obtain ⟨q, a, b⟩ := P.at_ i t h
    exact ⟨q, a, sqt b⟩⟩
theorem PtsT.same {H H' : Hp} {l : Addr} {as : List Addr} {pts : List (Int × Int)} (s : Same H H') (P : PtsT H l as pts) : PtsT H' l as pts :=
  ⟨s _ _ P.lst, P.len, fun i t h => by
    obtain ⟨q, a, b⟩ := P.at_ i t h
    exact ⟨q, a, s _ _ b⟩⟩
theorem PtsT.nil {H : Hp} {l : Addr} (h : H l = some (.lst [])) : PtsT H l [] [] := ⟨h, rfl, fun i t h => by simp at h⟩
/-- one pair more -/
theorem PtsT.push {H : Hp} {l t : Addr} {as : List Addr} {pts : List (Int × Int)} {x y : Int} (P : PtsT H l as pts) (ht : H t = some (.tup [.int x, .int y])) :
    PtsT (upd H l (.lst (as.map V.ref ++ [.ref t]))) l (as ++ [t]) (pts ++ [(x, y)]) := by
  have tl : ∀ u xs, H u = some (.tup xs) → u ≠ l := fun u xs h => ne_of h P.lst (by intro z; cases z)
  refine ⟨by rw [upd_same, List.map_append]; rfl, by rw [List.length_append, List.length_append, P.len]; rfl, fun i u h => ?_⟩
  by_cases c : i < as.length
  · rw [List.getElem?_append_left c] at h
    obtain ⟨q, a, b⟩ := P.at_ i u h
    exact ⟨q, by rw [List.getElem?_append_left (by rw [← P.len]; exact c)]; exact a, by rw [upd_ne (tl _ _ b)]; exact b⟩
  · rw [List.getElem?_append_right (by omega)] at h
    have e : i - as.length = 0 := by
      by_cases z : i - as.length = 0
      · exact z
      · rw [List.getElem?_eq_none (by show 1 ≤ _; omega)] at h
        cases h
    rw [e] at h
    have e2 : t = u := Option.some.inj h
    subst e2
    refine ⟨(x, y), ?_, by rw [upd_ne (tl _ _ ht)]; exact ht⟩
    rw [List.getElem?_append_right (by rw [← P.len]; omega), ← P.len, e]
    rfl
end Spw
namespace Spw
open PySem PySem.Spec PyProof.Rows L2 Spm
/-- two ways that go on alike, with two addresses -/
theorem share3 {X : Prop} {G : Addr → Addr → Hp → Prop} (Pre : Addr → Addr → Hp → Prop) (a : (∀ l m H2, Pre l m H2 → G l m H2) → X) (b : ∀ l m H2, Pre l m H2 → G l m H2) : X := a b
end Spw
namespace Spw
open PySem PySem.Spec PyProof.Rows L2 Spm
theorem inV_il (x : Int) (l : List Int) : inV (.int x) (il l) = decide (x ∈ l) := by
  unfold inV il
  induction l with
  | nil => simp
  | cons y l ih =>
    rw [List.map_cons, List.any_cons, ih]
    show ((y == x) || decide (x ∈ l)) = decide (x ∈ y :: l)
    by_cases c : y = x
    · subst c; simp
    · have c2 : ¬ x = y := fun z => c z.symm
      simp [c, c2]
theorem flat_il (l : List Int) : (il l).all flatV = true := by
  unfold il
  induction l with
  | nil => rfl
  | cons y l ih => rw [List.map_cons, List.all_cons, ih]; rfl
/-- a list at l of pairs, by their tuples' places -/
structure PtsZ (H : Hp) (l : Addr) (zs : List (Addr × Int × Int)) : Prop where
  lst : H l = some (.lst ((zs.map (·.1)).map V.ref))
  at_ : ∀ z ∈ zs, H z.1 = some (.tup [.int z.2.1, .int z.2.2])
theorem PtsZ.at {K : PySem.W.Frag} {H : Hp} {l : Addr} {zs : List (Addr × Int × Int)} (P : PtsZ H l zs) : PtsAt K H l (zs.map (·.1)) (zs.map (·.2)) :=
  ⟨sql P.lst, by rw [List.length_map, List.length_map], fun i t h => by
    rw [List.getElem?_map] at h
    cases e : zs[i]? with
    | none =>
      rw [e] at h
      cases h
    | some z =>
      rw [e] at h
      have e2 : z.1 = t := Option.some.inj h
      subst e2
      exact ⟨z.2, by rw [List.getElem?_map, e]; rfl, sqt (P.at_ z (List.mem_of_getElem? e))⟩⟩
theorem PtsZ.same {H H' : Hp} {l : Addr} {zs : List (Addr × Int × Int)} (s : Same H H') (P : PtsZ H l zs) : PtsZ H' l zs :=
  ⟨s _ _ P.lst, fun z h => s _ _ (P.at_ z h)⟩
theorem PtsZ.push {H : Hp} {l t : Addr} {zs : List (Addr × Int × Int)} {x y : Int} (P : PtsZ H l zs) (ht : H t = some (.tup [.int x, .int y])) :
    PtsZ (upd H l (.lst ((zs.map (·.1)).map V.ref ++ [.ref t]))) l (zs ++ [(t, x, y)]) := by
  have tl : ∀ u xs, H u = some (.tup xs) → u ≠ l := fun u xs h => ne_of h P.lst (by intro z; cases z)
  refine ⟨by rw [upd_same, List.map_append, List.map_append]; rfl, fun z hz => ?_⟩
  rcases List.mem_append.mp hz with h | h
  · rw [upd_ne (tl _ _ (P.at_ z h))]
    exact P.at_ z h
  · rw [List.mem_singleton.mp h, upd_ne (tl _ _ ht)]
    exact ht
/-- the same pairs in another list -/
theorem PtsZ.other {H : Hp} {l m : Addr} {zs ys : List (Addr × Int × Int)} (P : PtsZ H l zs) (h : ∀ y ∈ ys, y ∈ zs) (hm : H m = some (.lst ((ys.map (·.1)).map V.ref))) : PtsZ H m ys :=
  ⟨hm, fun z hz => P.at_ z (h z hz)⟩
/-- pairs compared -/
def datZ (zs : List (Addr × Int × Int)) : List PyData := zs.map fun z => .tuple [.int z.2.1, .int z.2.2]
theorem dp_z {K : PySem.W.Frag} {H : Hp} : ∀ zs : List (Addr × Int × Int), (∀ z ∈ zs, H z.1 = some (.tup [.int z.2.1, .int z.2.2])) → DpAll K H ((zs.map (·.1)).map V.ref) (datZ zs)
  | [], _ => .nil
  | z :: zs, h => .cons (.tup (sqt (h z (List.mem_cons_self ..))) (.cons (.int _) (.cons (.int _) .nil))) (dp_z zs fun y hy => h y (List.mem_cons_of_mem _ hy))
theorem layz : ∀ zs : List (Addr × Int × Int), PyData.canLayAll0 (datZ zs) = true ∧ PyData.depthAll (datZ zs) ≤ 2
  | [] => by simp [datZ, PyData.canLayAll0, PyData.depthAll]
  | z :: zs => by
    obtain ⟨h1, h2⟩ := layz zs
    unfold datZ at h1 h2
    simp only [datZ, List.map_cons, PyData.canLayAll0, PyData.depthAll, PyData.canLay0, PyData.depth, h1, Bool.and_self, true_and]
    omega
theorem shaped_z (zs : List (Addr × Int × Int)) : SeqAt.shaped (.list (datZ zs)) = true ∧ PyData.eqv (.list (datZ zs)) (.list (datZ zs)) = true := by
  obtain ⟨h1, h2⟩ := layz zs
  have e1 : PyData.canLay0 (.list (datZ zs)) = true := by simp only [PyData.canLay0]; exact h1
  have e2 : PyData.depth (.list (datZ zs)) ≤ 64 := by
    simp only [PyData.depth]
    exact Nat.le_trans (Nat.add_le_add_right h2 1) (by decide)
  refine ⟨?_, SeqAt.eqv_refl _ e1⟩
  unfold SeqAt.shaped
  rw [e1, decide_eq_true e2]
  rfl
theorem cut_from {xs : List V} {s : Nat} (h : s ≤ xs.length) : cutV xs (some (s : Int)) none = xs.drop s := by
  unfold cutV
  rw [HT.sIx_nat, HT.sIx_none, Nat.min_eq_left h, List.take_of_length_le (by rw [List.length_drop]; exact Nat.le_refl _)]
theorem cut_to {xs : List V} {s : Nat} (h : s ≤ xs.length) : cutV xs none (some (s : Int)) = xs.take s := by
  unfold cutV
  rw [HT.sIx_nat, HT.sIx_none, Nat.min_eq_left h, Nat.sub_zero, List.drop_zero]
end Spw

namespace Spm
theorem prime_divs {n : Int} (h1 : 2 ≤ n) (h2 : n ≤ 997) (h : ∀ d : Int, 2 ≤ d → d < n → n % d ≠ 0) : PrimeP n := ⟨h1, h2, fun d a b z => h d a b z.2⟩
theorem divs_prime {n : Int} (hp : PrimeP n) (d : Int) (a : 2 ≤ d) (b : d < n) : n % d ≠ 0 := by
  intro z
  have hd : d ∣ n := Int.dvd_of_emod_eq_zero z
  obtain ⟨e, rfl⟩ := hd
  have n1 := hp.1
  have e2 : 2 ≤ e := by
    by_cases c : e ≤ 1
    · have : d * e ≤ d * 1 := Int.mul_le_mul_of_nonneg_left c (by omega)
      omega
    · omega
  by_cases c : d ≤ e
  · exact hp.2.2 d a b ⟨Int.mul_le_mul_of_nonneg_left c (by omega), z⟩
  · have l : e < d * e := by
      have : 2 * e ≤ d * e := Int.mul_le_mul_of_nonneg_right a (by omega)
      omega
    exact hp.2.2 e e2 l ⟨Int.mul_le_mul_of_nonneg_right (by omega) (by omega), Int.mul_emod_left _ _⟩
end Spm

/-! Calls that may raise, within a try: a class, a method. -/
namespace Spw
open PySem PySem.Spec PyProof.Rows L2 Spm
/-- where the classes of the refusals lie: NoPrime, NoRest, NoRow, NoRoot, SpinError -/
structure Exs where
  P : Addr
  R : Addr
  W : Addr
  Z : Addr
  S : Addr
/-- what the written part says of a class of refusals -/
structure Exc (K : PySem.W.Frag) (mg : Str → Option Value) (x : Str) (C S : Addr) : Prop where
  g : mg x = some (.ref C)
  k : PySem.W.keepIn K (.ref C) = true
  q : PySem.W.excIn K C [.type "ValueError", .type "Exception", .type "BaseException", .type "object"] "ValueError.__new__" = true
  s : PySem.W.subIn K (.ref C) (.type "BaseException") = some true
  t : PySem.W.typeIn K (.ref C) = some (.type "type")
  e : PySem.W.exmOne K (.ref C) (.ref S) = some true
  c : ExcC K C
section
variable {X : Cx} {CX : CXT} {k : Nat} {f C : Addr} {fd : FuncData} {ps : List Str} {sp : Sp} {E : L2.St → XK} {x m : Str} {p pos apos : Pos} {e o : Expr} {es : List Expr} {ta : TE} {t : TA}
theorem run_makeS {pins : List (Addr × Obj)} {σ : L2.St} {H : Hp} {s : Shared} {Q : VK} {us : List Value} {vs : List V} (M : Mk X.K C f) (F : FnOk X.prog X.w X.K X.mg X.base CX k f fd ps sp) (hr : Room (k + 1) X.A) (hb : Binds X.K fd ps [])
    (hx : PassesAt CX X σ (E σ)) (I : Inv X pins σ H s) (r : Vals vs us)
    (h : ∀ x dx, H x = none → H dx = none → dx ≠ x → sp (.ref x :: vs) (upd (upd H dx (.own x)) x (.ins C dx [])) (fun v H2 => v = .non ∧ Q (.ref x) H2) (E σ)) :
    wpAny (model X.prog X.w) X.A (call (.ref C) us) (EP X pins σ Q) X.xe s := by
  have hq := h (s.heap.objs.size + 1) s.heap.objs.size (I.hok.fresh (Nat.le_succ _)) (I.hok.fresh (Nat.le_refl _)) (Nat.ne_of_lt (Nat.lt_succ_self _))
  have I2 := Inv.made (C := C) I
  have r2 : Vals (V.ref (s.heap.objs.size + 1) :: vs) (Value.ref (s.heap.objs.size + 1) :: us) := .cons rfl r
  have hl : ((Value.ref (s.heap.objs.size + 1) :: us) ++ []).length = ps.length := by
    rw [List.append_nil]
    have e := r2.length
    rw [F.len _ _ _ _ hq] at e
    exact e.symm
  have b := hb _ (Value.ref (s.heap.objs.size + 1) :: us) I2.kIn hl
  rw [List.append_nil] at b
  refine wpAny_call (make_map (f := f) I.kIn M.makes M.init (beq_iff_eq.mp M.fn) (codeAny_mono (F.run _ X.stack _ _ ⟨Value.ref (s.heap.objs.size + 1) :: us, []⟩ (Value.ref (s.heap.objs.size + 1) :: us) _ _ (E σ) (hr.make C us [])
    (I2.env0.make C us []) b r2 hq) fun r s' hq' => ?_))
  cases r with
  | error e => exact hx pins _ _ e s' I2 hq'
  | ok fl =>
    cases fl with
    | ret u =>
      obtain ⟨v, H', I3, rv, ev, q3⟩ := I2.after hq'
      subst ev
      exact ⟨rv, ⟨V.ref (s.heap.objs.size + 1), H', I3, rfl, q3⟩⟩
    | next => exact False.elim hq'
    | brk => exact False.elim hq'
    | cont => exact False.elim hq'
/-- C(..), within a try: its __init__ may raise -/
def tMakeS (C : Addr) (sp : Sp) (E : L2.St → XK) (t : TA) : TE := fun σ H Q => t σ H fun vs H1 => ∀ x dx, H1 x = none → H1 dx = none → dx ≠ x →
  sp (.ref x :: vs) (upd (upd H1 dx (.own x)) x (.ins C dx [])) (fun v H2 => v = .non ∧ Q (.ref x) H2) (E σ)
theorem pe_makeS (M : Mk X.K C f) (F : FnOk X.prog X.w X.K X.mg X.base CX k f fd ps sp) (hr : Room (k + 1) X.A) (hg : Gl X x) (hm : X.mg x = some (.ref C)) (hb : Binds X.K fd ps []) (hx : ∀ σ, PassesAt CX X σ (E σ))
    (ha : PA X (e :: es) t) (hdb : (x == ("__debug__" : Str)) = false := by decide) (he : starEach (e :: es) X.env = (false, eval e X.env) :: starEach es X.env := by rfl) (hpl : (backTo pos (starEach es X.env)).any (·.1) = false := by rfl) :
    PE X (.Call (.Name x p) (e :: es) [] pos) (tMakeS C sp E t) := by
  refine ⟨fun pins s σ H Q I h => ?_⟩
  refine wpAny_Call_Name_kw (ld_glob I hg hm ?_ hdb)
  refine PySem.W.callWith_K (h₀ := X.base) I.ok.mod.kin M.kp (thn (ha.run pos pins s σ H _ I h) fun us s1 ⟨vs, H1, I1, r, q⟩ => ⟨I1.kIn, ?_⟩) he hpl
  exact run_makeS M F hr hb (hx σ) I1 r q
/-- o.m(e, ..), within a try -/
def tMethS (C : Addr) (m : Str) (sp : Sp) (E : L2.St → XK) (ta : TE) (t : TA) : TE := fun σ H Q => ta σ H fun x H1 => ∃ a dx fs, x = .ref a ∧ H1 a = some (.ins C dx fs) ∧ fs.lookup m = none ∧
  t σ H1 fun vs H2 => sp (x :: vs) H2 Q (E σ)
theorem pe_methS {pl : Sem Bool} (he : PE X o ta) (c : Cls X.K C) (hm : Meth X.K C m f) (F : FnOk X.prog X.w X.K X.mg X.base CX k f fd ps sp) (hr : Room k X.A) (hb : Binds X.K fd ps []) (hx : ∀ σ, PassesAt CX X σ (E σ)) (ha : PA X (e :: es) t)
    (hst : starEach (e :: es) X.env = (false, eval e X.env) :: starEach es X.env := by rfl) (hpl : (backTo pos (starEach es X.env)).any (·.1) = false := by rfl)
    (ht : eval (.Call (.Attribute o m apos) (e :: es) [] pos) X.env = (do
      let ov ← eval o X.env
      standAt apos.atName
      let (f, first) ← holding [ov] (getMethod ov m pl)
      callWith pos f first (backTo pos (starEach (e :: es) X.env)) (backToKw pos (keywordEach [] X.env))) := by rfl) :
    PE X (.Call (.Attribute o m apos) (e :: es) [] pos) (tMethS C m sp E ta t) := by
  refine ⟨fun pins s σ H Q I h => ?_⟩
  refine PySem.W.methodCall_KW (pl := pl) (thn (he.run pins s σ H _ I h) fun u s1 ⟨x, H1, I1, rx, a, dx, fs, ex, ea, l, q⟩ => ?_) ht
  subst ex
  obtain rfl : u = Value.ref a := rx
  refine getmeth_ok I1 ea c hm l ?_
  refine PySem.W.callWith_K (first := [.ref a]) (h₀ := X.base) I.ok.mod.kin hm.kp (thn (ha.run pos pins s1 σ H1 _ I1 q) fun us s2 ⟨vs, H2, I2, r, q2⟩ => ⟨I2.kIn, ?_⟩) hst hpl
  exact run_fnS (us := .ref a :: us) (vs := .ref a :: vs) F hr hb (hx σ) I2 (.cons rfl r) q2
/-- isinstance(e, c), e the refusal that the suite holds at a -/
def rIsX (K : PySem.W.Frag) (a : Addr) (cls : Value) (d : Option Addr) : List V → Hp → VK → Prop := fun xs H Q => ∃ (D : Addr) (c : V) (cv : Value) (b : Bool), cls = .ref D ∧ d = none ∧ ExcC K D ∧ xs = [.ref a, c] ∧ (∀ u, RelV c u → u = cv) ∧ PySem.W.kitOne K (.ref D) cv = some b ∧ Q (.bl b) H
theorem call_isX {X : Cx} {K : PySem.W.Frag} {a : Addr} {oe : Obj} {cls : Value} {d : Option Addr} {pn : List (Addr × Obj)} (hK : X.K = K) (hz : Zc cls d oe) (hf : ∃ vs, oe.data = .fields vs) : CallR (X.suite a ((a, oe) :: pn)) (.builtin "isinstance") (rIsX K a cls d) := by
  intro pins s σ H xs us Q I r h
  obtain ⟨D, c, cv, b, rfl, rfl, C, rest⟩ := h
  subst hK
  exact call_isE C hz hf pins s σ H xs us Q I r ⟨c, cv, b, rest⟩
end
end Spw
namespace Spw
open PySem PySem.Spec PyProof.Rows L2 Spm
theorem shareN {G : Prop} {R : Int → Option V → Hp → Prop} {H : Hp} (b : (∀ (n : Int) (far : Option V) (H1 : Hp), Same H H1 → R n far H1) → G) (main : ∀ (n : Int) (far : Option V) (H1 : Hp), Same H H1 → R n far H1) : G := b main
end Spw
namespace Spw
open PySem PySem.Spec PyProof.Rows L2 Spm
theorem shareG {G : Prop} {R : Bool → Hp → Prop} {H : Hp} {Z : Prop} (b : (∀ (g : Bool) (H1 : Hp), Same H H1 → (g = true ↔ Z) → R g H1) → G) (main : ∀ (g : Bool) (H1 : Hp), Same H H1 → (g = true ↔ Z) → R g H1) : G := b main
end Spw

namespace Spw
open PySem PySem.Spec PyProof.Rows L2 Spm
def top (i : Nat) : Stmt := PySem.Challenge.pw_spinsum_k02_primes.main.body.getD i (.Pass ⟨0, 0, 0, 0⟩)
abbrev s_l_cell_at : Stmt := top 10
abbrev N_l_cell_at : List Str := ["script", "k"]
theorem sc_l_cell_at : FnScope N_l_cell_at ["script", "k"] (defScope s_l_cell_at) := ⟨rfl, rfl, rfl, by decide +kernel, rfl, by decide +kernel, by decide +kernel⟩
abbrev s_is_prime : Stmt := top 7
abbrev N_is_prime : List Str := ["number", "part"]
theorem sc_is_prime : FnScope N_is_prime ["number"] (defScope s_is_prime) := ⟨rfl, rfl, rfl, by decide +kernel, rfl, by decide +kernel, by decide +kernel⟩
abbrev s_m_init : Stmt := inClass (top 8) 0
abbrev N_m_init : List Str := ["self", "prime"]
theorem sc_m_init : FnScope N_m_init ["self", "prime"] (defScope s_m_init) := ⟨rfl, rfl, rfl, by decide +kernel, rfl, by decide +kernel, by decide +kernel⟩
abbrev s_law : Stmt := top 11
abbrev N_law : List Str := ["script", "number", "far", "good", "told", "e", "part"]
theorem sc_law : FnScope N_law ["script"] (defScope s_law) := ⟨rfl, rfl, rfl, by decide +kernel, rfl, by decide +kernel, by decide +kernel⟩
structure Env (K : PySem.W.Frag) (mg : Str → Option Value) where
  C : Addr
  cl_C : Cls K C
  np_C : NoAttr K C "prime"
  g_C : mg "Field" = some (.ref C)
  f_l_cell_at : Addr
  d_l_cell_at : FuncData
  F_l_cell_at : Fun K "_law_cell_at" "_law_cell_at" s_l_cell_at f_l_cell_at d_l_cell_at
  b_l_cell_at : Binds K d_l_cell_at ["script", "k"] []
  g_l_cell_at : mg "_law_cell_at" = some (.ref f_l_cell_at)
  f_is_prime : Addr
  d_is_prime : FuncData
  F_is_prime : Fun K "is_prime" "is_prime" s_is_prime f_is_prime d_is_prime
  b_is_prime : Binds K d_is_prime ["number"] []
  g_is_prime : mg "is_prime" = some (.ref f_is_prime)
  f_m_init : Addr
  d_m_init : FuncData
  F_m_init : Fun K "__init__" "Field.__init__" s_m_init f_m_init d_m_init
  b_m_init : Binds K d_m_init ["self", "prime"] []
  M_C : Mk K C f_m_init
  f_law : Addr
  d_law : FuncData
  F_law : Fun K "law" "law" s_law f_law d_law
  b_law : Binds K d_law ["script"] []
  g_law : mg "law" = some (.ref f_law)
  x_NoPrime : Addr
  x_NoRest : Addr
  x_SpinError : Addr
  X_NoPrime : Exc K mg "NoPrime" x_NoPrime x_SpinError
  X_NoRest : Exc K mg "NoRest" x_NoRest x_SpinError
  X_SpinError : Exc K mg "SpinError" x_SpinError x_SpinError
  K_NoPrime_NoPrime : PySem.W.kitOne K (.ref x_NoPrime) (.ref x_NoPrime) = some true
  K_NoPrime_NoRest : PySem.W.kitOne K (.ref x_NoPrime) (.ref x_NoRest) = some false
  K_NoPrime_SpinError : PySem.W.kitOne K (.ref x_NoPrime) (.ref x_SpinError) = some true
  V_NoPrime : PySem.W.kitOne K (.ref x_NoPrime) (.type "ValueError") = some true
  K_NoRest_NoPrime : PySem.W.kitOne K (.ref x_NoRest) (.ref x_NoPrime) = some false
  K_NoRest_NoRest : PySem.W.kitOne K (.ref x_NoRest) (.ref x_NoRest) = some true
  K_NoRest_SpinError : PySem.W.kitOne K (.ref x_NoRest) (.ref x_SpinError) = some true
  V_NoRest : PySem.W.kitOne K (.ref x_NoRest) (.type "ValueError") = some true
  n_ValueError : mg "ValueError" = none
  n_isinstance : mg "isinstance" = none
  n_len : mg "len" = none
  n_range : mg "range" = none
  c_GREATEST : ∃ t, mg "GREATEST" = some (.int 997 t)
def Env.xs {K : PySem.W.Frag} {mg : Str → Option Value} (T : Env K mg) : Exs := ⟨T.x_NoPrime, T.x_NoRest, 0, 0, T.x_SpinError⟩
end Spw

namespace Spw
open PySem PySem.Spec PyProof.Rows L2 Spm
section
variable {P : Program} {w : World} {K : PySem.W.Frag} {mg : Str → Option Value} {base : Heap}
/-- _law_cell_at -/
def sp_l_cell_at (K : PySem.W.Frag) (C : Addr) : Sp := fun vs H Q _ => ∃ (a : Addr) (ns : List Int) (k : Nat), vs = [.ref a, .int k] ∧ SqL K H a (il ns) ∧ Q (.int (at0 ns k)) H
theorem ok_l_cell_at (T : Env K mg) : FnOk P w K mg base CX0 1 T.f_l_cell_at T.d_l_cell_at ["script", "k"] (sp_l_cell_at K T.C) := by
  refine T.F_l_cell_at.ok sc_l_cell_at (fun vs H Q E h => ?_) (fun cdv A outer s H vs Q E hr h => ?_)
  · obtain ⟨a, ns, k, rfl, _⟩ := h
    rfl
  · obtain ⟨a, ns, k, rfl, hS, q⟩ := h
    refine ⟨_, (pss_cons (ps_if (pt_cmpR op_lt (pv 1) (pe_callB call_len_seq (by rfl) T.n_len PySem.boot_len (pa_cons (pv 0) pa_nil)) (nomark _)) (pss_one (ps_ret (pe_ix ix_list (pv 0) (pv 1) (fun _ _ => rfl)))) pss_nil)
      (pss_one (ps_ret pe_int))), ?_⟩
    refine ⟨_, rfl, _, rfl, a, _, rfl, .inl hS, _, _, rfl, rfl, _, rfl, ?_⟩
    rw [il_len]
    by_cases c : k < ns.length
    · refine iteD (by omega) ⟨_, rfl, _, rfl, a, _, _, _, rfl, rfl, hS, atI_nat (at_il (at0_get c)), ?_⟩
      exact q
    · refine iteDF (by omega) ?_
      have e : at0 ns k = 0 := by
        unfold at0
        rw [List.getD_eq_getElem?_getD, List.getElem?_eq_none (by omega)]
        rfl
      rw [e] at q
      exact q
end
end Spw

namespace Spw
open PySem PySem.Spec PyProof.Rows L2 Spm
section
variable {P : Program} {w : World} {K : PySem.W.Frag} {mg : Str → Option Value} {base : Heap}
/-- is_prime -/
def sp_is_prime (K : PySem.W.Frag) (C : Addr) : Sp := fun vs H Q _ => ∃ n : Int, vs = [.int n] ∧ (PrimeP n → Q (.bl true) H) ∧ (¬ PrimeP n → Q (.bl false) H)
theorem ok_is_prime (T : Env K mg) : FnOk P w K mg base CX0 1 T.f_is_prime T.d_is_prime ["number"] (sp_is_prime K T.C) := by
  refine T.F_is_prime.ok sc_is_prime (fun vs H Q E h => ?_) (fun cdv A outer s H vs Q E hr h => ?_)
  · obtain ⟨n, rfl, _⟩ := h
    rfl
  · obtain ⟨n, rfl, qt, qf⟩ := h
    refine ⟨_, (pss_cons (ps_if (pt_not (pt_chain op_le op_le pe_int (pv 0) (pe_glob (v := .int 997) rfl T.c_GREATEST.choose_spec ⟨_, rfl⟩))) (pss_one (ps_ret pe_bl)) pss_nil)
      (pss_cons (ps_for PassesOwn.never rfl (pi_range2 (by rfl) T.n_range (pa_cons pe_int (pa_cons (pv 0) pa_nil))) (pg_name (i := 1) sc_is_prime.nd rfl (Or.inl rfl)) (pss_one (ps_if (PW.pt (pw_and (pt_cmpR op_le (pe_op op_mul (pv 1) (pv 1)) (pv 0) (nomark _)) (pw_and1 (pt_cmpR op_eq (pe_op op_mod (pv 0) (pv 1)) pe_int (nomark _))))) (pss_one (ps_ret pe_bl)) pss_nil)))
      (pss_one (ps_ret pe_bl)))), ?_⟩
    by_cases c1 : 2 ≤ n
    · by_cases c2 : n ≤ 997
      · refine ⟨_, rfl, _, _, rfl, rfl, _, rfl, iteD c1 ⟨_, _, rfl, rfl, _, rfl, iteNS c2 ?_⟩⟩
        refine ⟨_, rfl, _, _, rfl, ⟨by decide, by decide, by omega, by omega⟩, ?_⟩
        refine for_range (lo := 2) (n := (n - 2).toNat) (fun i σ H' => ∃ v, σ = [some (.int n), v] ∧ H' = H ∧ ∀ d : Int, 2 ≤ d → d < 2 + i → ¬ (d * d ≤ n ∧ n % d = 0))
          ⟨none, rfl, rfl, fun d a b => by omega⟩ ?_ ?_
        · rintro i σ H' hi ⟨v, rfl, rfl, hd⟩
          refine ⟨_, rfl, _, rfl, _, _, rfl, rfl, .inl ⟨by omega, by omega⟩, _, rfl, _, _, rfl, rfl, _, rfl, ?_⟩
          by_cases c3 : ((2 : Int) + i) * (2 + i) ≤ n
          · refine iteD c3 ⟨_, rfl, _, rfl, _, _, rfl, rfl, (by show (0 : Int) < 2 + i; omega), rfl, _, rfl, ?_⟩
            by_cases c4 : n % ((2 : Int) + i) = 0
            · refine iteD (congrArg V.int c4) ?_
              exact qf fun hp => hp.2.2 _ (by omega) (by omega) ⟨c3, c4⟩
            · refine iteDF (fun z => c4 (V.int.inj z)) ⟨_, rfl, rfl, fun d a b => ?_⟩
              by_cases e : d = 2 + (i : Int)
              · subst e
                exact fun z => c4 z.2
              · exact hd d a (by omega)
          · refine iteDF c3 ⟨_, rfl, rfl, fun d a b => ?_⟩
            by_cases e : d = 2 + (i : Int)
            · subst e
              exact fun z => c3 z.1
            · exact hd d a (by omega)
        · rintro σ H' ⟨v, rfl, rfl, hd⟩
          exact qt ⟨c1, c2, fun d a b => hd d a (by omega)⟩
      · refine ⟨_, rfl, _, _, rfl, rfl, _, rfl, iteD c1 ⟨_, _, rfl, rfl, _, rfl, iteNF c2 ?_⟩⟩
        exact qf fun hp => c2 hp.2.1
    · refine ⟨_, rfl, _, _, rfl, rfl, _, rfl, iteDF c1 ⟨_, rfl, iteT ?_⟩⟩
      exact qf fun hp => c1 hp.1
end
end Spw

namespace Spw
open PySem PySem.Spec PyProof.Rows L2 Spm
section
variable {P : Program} {w : World} {K : PySem.W.Frag} {mg : Str → Option Value} {base : Heap}
/-- Field(n): the object, or NoPrime -/
def sp_m_init (K : PySem.W.Frag) (C : Addr) (D : Exs) : Sp := fun vs H Q E => ∃ (x dx : Addr) (n : Int), vs = [.ref x, .int n] ∧ H x = some (.ins C dx []) ∧
  (PrimeP n → ∀ H' : Hp, FieldAt C H' x n → (∀ b o, H b = some o → b ≠ x → H' b = some o) → Q .non H') ∧ (¬ PrimeP n → E (.ref D.P) none H)
theorem ok_m_init (T : Env K mg) : FnOk P w K mg base (L2.CX P w) 2 T.f_m_init T.d_m_init ["self", "prime"] (sp_m_init K T.C T.xs) := by
  refine T.F_m_init.okX sc_m_init (fun vs H Q E h => ?_) (fun cdv A outer s H vs Q E hr h => ?_)
  · obtain ⟨x, dx, n, rfl, _⟩ := h
    rfl
  · obtain ⟨x, dx, n, rfl, hx, q, e⟩ := h
    refine ⟨_, (pss_cons (ps_if (pt_not (pt_val (pe_call (ok_is_prime T) (hr.mono (by decide)) (by rfl) T.g_is_prime T.F_is_prime.kp T.b_is_prime .nil pass0 (pa_cons (pv 1) pa_nil)))) (pss_one (ps_raise rfl (takes_of rfl rfl rfl rfl) (pmk_own PySem.F.excBase_ValueError T.X_NoPrime.q T.X_NoPrime.g T.X_NoPrime.k (raises_own T.X_NoPrime.s T.X_NoPrime.t) rfl))) pss_nil)
      (pss_one (ps_fld (pv 0) (pv 1) rfl))), ?_⟩
    refine ⟨_, rfl, n, rfl, fun hp => ?_, fun hn => ?_⟩
    · refine ⟨_, rfl, iteF ?_⟩
      refine ⟨_, rfl, _, rfl, x, T.C, dx, _, rfl, hx, T.cl_C, T.np_C, (by show 0 < 1000; decide), ?_⟩
      exact q hp _ ⟨dx, upd_same⟩ fun b o e hb => by rw [upd_ne hb]; exact e
    · refine ⟨_, rfl, iteT ?_⟩
      exact e hn
end
end Spw

namespace Spw
open PySem PySem.Spec PyProof.Rows L2 Spm
section
variable {P : Program} {w : World} {K : PySem.W.Frag} {mg : Str → Option Value} {base : Heap}
def sp_law (K : PySem.W.Frag) (C : Addr) : Sp := fun vs H Q _ => ∃ (a : Addr) (ns : List Int), vs = [.ref a] ∧ SqL K H a (il ns) ∧ ns.length ≤ 63 ∧ ∀ H', Q (.bl true) H'
theorem ok_law (T : Env K mg) : FnOk P w K mg base CX0 4 T.f_law T.d_law ["script"] (sp_law K T.C) := by
  refine T.F_law.ok sc_law (fun vs H Q E h => ?_) (fun cdv A outer s H vs Q E hr h => ?_)
  · obtain ⟨a, ns, rfl, _⟩ := h
    rfl
  · obtain ⟨a, ns, rfl, hS, hlen, q⟩ := h
    refine ⟨_, (pss_cons (ps_set (i := 1) sc_law.nd rfl (Or.inr rfl) (pe_op op_mod (pe_call (ok_l_cell_at T) (hr.mono (by decide)) (by rfl) T.g_l_cell_at T.F_l_cell_at.kp T.b_l_cell_at .nil pass0 (pa_cons (pv 0) (pa_cons pe_int pa_nil))) pe_int))
      (pss_cons (ps_if (pt_cmpR op_eq (pe_op op_mod (pe_call (ok_l_cell_at T) (hr.mono (by decide)) (by rfl) T.g_l_cell_at T.F_l_cell_at.kp T.b_l_cell_at .nil pass0 (pa_cons (pv 0) (pa_cons pe_int pa_nil))) pe_int) pe_int (nomark _)) (pss_cons (ps_set (i := 2) sc_law.nd rfl (Or.inl rfl) (pe_op op_mod (pe_call (ok_l_cell_at T) (hr.mono (by decide)) (by rfl) T.g_l_cell_at T.F_l_cell_at.kp T.b_l_cell_at .nil pass0 (pa_cons (pv 0) (pa_cons pe_int pa_nil))) (pe_op op_pow pe_int pe_int)))
      (pss_one (ps_set (i := 1) sc_law.nd rfl (Or.inr rfl) (pe_ix ix_list (pe_lst (pa_cons (pe_op op_sub pe_int (pv 2)) (pa_cons (pv 2) pa_nil))) (pe_op op_mod (pe_call (ok_l_cell_at T) (hr.mono (by decide)) (by rfl) T.g_l_cell_at T.F_l_cell_at.kp T.b_l_cell_at .nil pass0 (pa_cons (pv 0) (pa_cons pe_int pa_nil))) pe_int) (fun _ _ => rfl))))) pss_nil)
      (pss_cons (ps_set (i := 3) sc_law.nd rfl (Or.inl rfl) (pe_chain op_le op_le pe_int (pv 1) pe_int))
      (pss_cons (ps_if (pt_val (pv 3)) (pss_one (ps_set (i := 3) sc_law.nd rfl (Or.inl rfl) (pe_cmpR op_eq (pe_callB call_len_seq (by rfl) T.n_len PySem.boot_len (pa_cons (pe_lc (own := [("part", 6)]) (g := gName 6) rfl sc_law.nd (pi_range2 (by rfl) T.n_range (pa_cons pe_int (pa_cons (pv 1) pa_nil))) (blkOk_by (N := N_law) (sc := defScope s_law) (by decide +kernel)) (fun _ _ _ _ _ => pg_name (i := 6) sc_law.nd rfl (Or.inl rfl)) (fun _ _ _ _ _ => by exact (pts_one (pt_cmpR op_eq (pe_op op_mod (pv 1) (pv 6)) pe_int (nomark _)))) (fun _ _ _ _ _ => by exact (pv 6))) pa_nil)) pe_int (nomark _)))) pss_nil)
      (pss_cons (ps_set (i := 4) sc_law.nd rfl (Or.inl rfl) pe_non)
      (pss_cons (ps_try_as (i := 5) (Wout := fun _ _ _ _ => False) rfl rfl sc_law.nd rfl rfl ⟨rfl, by decide, Or.inl T.X_SpinError.g⟩ takes0 (fun W pn xe tk po => (pss_one (ps_set (i := 4) sc_law.nd rfl (Or.inl rfl) (pe_fldK (K := K) rfl (pe_makeS T.M_C (ok_m_init T) (hr.mono (by decide)) (by rfl) T.g_C T.b_m_init (fun σ => passAt tk σ) (pa_cons (pv 1) pa_nil)) rfl)))) (fun a oe cls d pn hz hf => (pss_one (ps_set (i := 4) sc_law.nd rfl (Or.inl rfl) (pe_tup (pa_cons (pe_callB (call_isX (K := K) rfl hz hf) (by rfl) T.n_isinstance (by decide +kernel) (pa_cons (pv 5) (pa_cons (pe_glob (v := .ref T.x_NoPrime) rfl T.X_NoPrime.g rfl) pa_nil))) (pa_cons (pe_callB (call_isX (K := K) rfl hz hf) (by rfl) T.n_isinstance (by decide +kernel) (pa_cons (pv 5) (pa_cons (pe_bltn (v := .ty "ValueError") (by rfl) T.n_ValueError (by decide +kernel) rfl) pa_nil))) (pa_cons (pe_callB (call_isX (K := K) rfl hz hf) (by rfl) T.n_isinstance (by decide +kernel) (pa_cons (pv 5) (pa_cons (pe_glob (v := .ref T.x_NoRest) rfl T.X_NoRest.g rfl) pa_nil))) pa_nil))))))))
      (pss_cons (ps_if (pt_val (pv 3)) (pss_one (ps_ret (pe_cmpR op_eq (pv 4) (pv 1) (nomark _)))) pss_nil)
      (pss_one (ps_ret (pe_cmpR (op_eqD hr.units) (pv 4) (pe_tup (pa_cons pe_bl (pa_cons pe_bl (pa_cons pe_bl pa_nil)))) (nomark _))))))))))), ?_⟩
    refine ⟨_, rfl, a, ns, 0, rfl, hS, _, _, rfl, rfl, (by decide : (0 : Int) < 1101), ?_⟩
    refine ⟨_, rfl, a, ns, 1, rfl, hS, _, _, rfl, rfl, (by decide : (0 : Int) < 4), rfl, _, rfl, ?_⟩
    refine' shareN (H := H) (fun main => ?way) ?on
    case way =>
      by_cases c : at0 ns 1 % 4 = 1
      · refine iteD (congrArg V.int c) ?_
        refine ⟨_, rfl, a, ns, 0, rfl, hS, _, _, rfl, rfl, ⟨by decide, by decide, by decide⟩, _, _, rfl, rfl, (by decide : (0 : Int) < 10 ^ 40), ?_⟩
        refine ⟨_, rfl, _, _, rfl, rfl, _, rfl, le2 _ _, fun l nl => ?_⟩
        refine ⟨_, rfl, a, ns, 2, rfl, (same_upd nl).seq hS, _, _, rfl, rfl, (by decide : (0 : Int) < 2), ?_⟩
        have hc : at0 ns 2 % 2 = 0 ∨ at0 ns 2 % 2 = 1 := by omega
        rcases hc with e | e
        · refine ⟨l, _, _, _, rfl, congrArg V.int e, sql upd_same, atI_nat (j := 0) rfl, ?_⟩
          refine (fun h : ∀ (n : Int) (far : Option V) (H2 : Hp), Same H H2 → tSeq _ _ _ [some (.ref a), some (.int n), far, none, none, none, none] H2 => h _ (some (.int _)) _ (same_upd nl)) ?_
          exact fun n far H2 s2 => main n far H2 s2
        · refine ⟨l, _, _, _, rfl, congrArg V.int e, sql upd_same, atI_nat (j := 1) rfl, ?_⟩
          refine (fun h : ∀ (n : Int) (far : Option V) (H2 : Hp), Same H H2 → tSeq _ _ _ [some (.ref a), some (.int n), far, none, none, none, none] H2 => h _ (some (.int _)) _ (same_upd nl)) ?_
          exact fun n far H2 s2 => main n far H2 s2
      · refine iteDF (fun z => c (V.int.inj z)) ?_
        refine (fun h : ∀ (n : Int) (far : Option V) (H2 : Hp), Same H H2 → tSeq _ _ _ [some (.ref a), some (.int n), far, none, none, none, none] H2 => h _ none H (fun _ _ h => h)) ?_
        exact fun n far H2 s2 => main n far H2 s2
    case on =>
      intro n far H1 s1
      refine ⟨_, rfl, ?_⟩
      refine' shareG (H := H1) (Z := PrimeP n) (fun main2 => ?way2) ?on2
      case way2 =>
        refine ⟨_, _, rfl, rfl, _, rfl, ?_⟩
        by_cases c1 : 2 ≤ n
        · refine iteD c1 ⟨_, _, rfl, rfl, ?_⟩
          by_cases c2 : n ≤ 997
          · refine ⟨_, rfl, _, rfl, iteD c2 ?_⟩
            refine ⟨_, rfl, _, _, rfl, ⟨by decide, by decide, by omega, by omega⟩, fun D nD => ?_⟩
            refine lc_range (lo := 2) (n := (n - 2).toNat) (fun i H' => Same H1 H' ∧ ∃ xs : List V, H' D = some (.lst xs) ∧ xs.length ≤ i ∧ (xs.length = 0 ↔ ∀ d : Int, 2 ≤ d → d < 2 + i → n % d ≠ 0))
              ⟨same_upd nD, [], upd_same, Nat.le_refl _, by simp only [List.length_nil, true_iff]; intro d a b; omega⟩ ?_ ?_
            · rintro i H' hi ⟨s2, xs, hD, hl, hx⟩
              refine ⟨rfl, ?_⟩
              refine ⟨_, rfl, _, rfl, _, _, rfl, rfl, (by show (0 : Int) < 2 + i; omega), rfl, _, rfl, ?_⟩
              by_cases c3 : n % ((2 : Int) + i) = 0
              · refine iteD (congrArg V.int c3) ⟨_, rfl, xs, hD, small1000 (by omega), s2.over nD, _, upd_same, by simp; omega, ?_⟩
                constructor
                · intro z
                  simp at z
                · intro z
                  exact absurd c3 (z (2 + i) (by omega) (by omega))
              · refine iteDF (fun z => c3 (V.int.inj z)) ⟨s2, xs, hD, by omega, hx.trans ?_⟩
                constructor
                · intro z d a b
                  by_cases e : d = 2 + (i : Int)
                  · subst e; exact c3
                  · exact z d a (by omega)
                · intro z d a b
                  exact z d a (by omega)
            · rintro H' ⟨s2, xs, hD, hl, hx⟩
              refine ⟨D, xs, rfl, .inl (sql hD), rfl, ?_⟩
              refine (fun h : ∀ (g : Bool) (H2 : Hp), Same H1 H2 → (g = true ↔ PrimeP n) → tSeq _ _ _ [some (.ref a), some (.int n), far, some (.bl g), none, none, none] H2 => h _ _ ?s0 ?g0) (fun g H2 s2 hg => main2 g H2 s2 hg)
              · exact s2
              · rw [decide_eq_true_iff]
                constructor
                · intro z
                  have z := V.int.inj z
                  exact prime_divs c1 c2 fun d a b => hx.mp (by omega) d a (by omega)
                · intro z
                  exact congrArg V.int (show ((xs.length : Nat) : Int) = 0 by rw [hx.mpr fun d a b => divs_prime z d a (by omega)]; rfl)
          · refine ⟨_, rfl, _, rfl, iteDF c2 ?_⟩
            refine (fun h : ∀ (g : Bool) (H2 : Hp), Same H1 H2 → (g = true ↔ PrimeP n) → tSeq _ _ _ [some (.ref a), some (.int n), far, some (.bl g), none, none, none] H2 => h _ _ ?s1 ?g1) (fun g H2 s2 hg => main2 g H2 s2 hg)
            · exact fun _ _ h => h
            · rw [decide_eq_true_iff]
              exact ⟨fun z => absurd z c2, fun z => absurd z.2.1 c2⟩
        · refine iteDF c1 ⟨_, rfl, _, rfl, iteF ?_⟩
          refine (fun h : ∀ (g : Bool) (H2 : Hp), Same H1 H2 → (g = true ↔ PrimeP n) → tSeq _ _ _ [some (.ref a), some (.int n), far, some (.bl g), none, none, none] H2 => h _ _ ?s2 ?g2) (fun g H2 s2 hg => main2 g H2 s2 hg)
          · exact fun _ _ h => h
          · exact ⟨fun z => Bool.noConfusion z, fun z => absurd z.1 c1⟩
      case on2 =>
        intro g H2 s2 hg
        refine ⟨_, rfl, fun x dx nx ndx nex => ⟨x, dx, n, rfl, upd_same, fun hp H3 hF k => ⟨rfl, ?_⟩, fun hn => ?_⟩⟩
        · obtain ⟨d3, hD3⟩ := id hF
          refine ⟨x, T.C, d3, _, _, rfl, hD3, T.cl_C, T.np_C, ff_prime _, ?_⟩
          have hg1 : g = true := hg.mpr hp
          subst hg1
          refine ⟨_, rfl, _, rfl, iteT ?_⟩
          refine ⟨_, rfl, _, rfl, rfl, ?_⟩
          rw [decide_eq_true rfl]
          exact q _
        · refine ⟨true, T.X_NoPrime.e, fun _ x0 hx0 => ?_, fun z => nomatch z⟩
          refine ⟨_, rfl, T.x_NoPrime, _, _, _, rfl, rfl, T.X_NoPrime.c, rfl, fun u r => r, T.K_NoPrime_NoPrime, ?_⟩
          refine ⟨_, rfl, T.x_NoPrime, _, _, _, rfl, rfl, T.X_NoPrime.c, rfl, fun u r => r, T.V_NoPrime, ?_⟩
          refine ⟨_, rfl, T.x_NoPrime, _, _, _, rfl, rfl, T.X_NoPrime.c, rfl, fun u r => r, T.K_NoPrime_NoRest, ?_⟩
          refine ⟨le3 _ _ _, fun t nt => ?_⟩
          have hg1 : g = false := by
            cases g
            · rfl
            · exact absurd (hg.mp rfl) hn
          subst hg1
          refine ⟨_, rfl, _, rfl, iteF ?_⟩
          refine ⟨_, rfl, le3 _ _ _, fun u nu => ?_⟩
          have hT : upd (upd (upd (upd H2 dx (.own x)) x (.ins T.C dx [])) t (.tup [.bl true, .bl true, .bl false])) u (.tup [.bl true, .bl true, .bl false]) t = some (.tup [.bl true, .bl true, .bl false]) := by
            rw [upd_ne (fun e => by subst e; rw [upd_same] at nu; cases nu)]
            exact upd_same
          have dp : ∀ (H : Hp) (z : Addr), H z = some (.tup [.bl true, .bl true, .bl false]) → Dp K H (.ref z) (.tuple [.bool true, .bool true, .bool false]) := fun H z e => .tup (.inl (.inl e)) (.cons (.bl _) (.cons (.bl _) (.cons (.bl _) .nil)))
          refine ⟨_, _, dp _ _ hT, dp _ _ upd_same, by decide, by decide, ?_⟩
          exact q _
end
end Spw

namespace Spw
open PySem PySem.Spec PyProof.Rows L2 Spm
theorem all_mk {l : PySem.W.OpenLaw} {w : World} {K : PySem.W.Frag} {h : Heap} {mg : Str → Option Value} {fa C f_l_cell_at f_is_prime f_m_init f_law x_NoPrime x_NoRest x_SpinError : Addr} (X : K.In h) (G : h.Ns mainGlobals mg) (hfa : mg "law" = some (.ref fa))
    {od_l_cell_at an_l_cell_at : Option Addr} {sl_l_cell_at : Array (Option Value)} {oc_l_cell_at kV_l_cell_at dc_l_cell_at pm_l_cell_at cd_l_cell_at ct_l_cell_at : Value}
    {od_is_prime an_is_prime : Option Addr} {sl_is_prime : Array (Option Value)} {oc_is_prime kV_is_prime dc_is_prime pm_is_prime cd_is_prime ct_is_prime : Value}
    {od_m_init an_m_init : Option Addr} {sl_m_init : Array (Option Value)} {oc_m_init kV_m_init dc_m_init pm_m_init cd_m_init ct_m_init : Value}
    {od_law an_law : Option Addr} {sl_law : Array (Option Value)} {oc_law kV_law dc_law pm_law cd_law ct_law : Value}
    {tk_GREATEST : Tok}
    (aC : PySem.W.nsIn K mainGlobals "Field" = some (some (.ref C)))
    (a_l_cell_at : PySem.W.nsIn K mainGlobals "_law_cell_at" = some (some (.ref f_l_cell_at)))
    (l_l_cell_at : K.lookup f_l_cell_at = some ⟨oc_l_cell_at, od_l_cell_at, .func (PySem.W.fnOf "_law_cell_at" "_law_cell_at" (defArgs s_l_cell_at) (defBody s_l_cell_at) (defScope s_l_cell_at) .none kV_l_cell_at dc_l_cell_at pm_l_cell_at an_l_cell_at cd_l_cell_at ct_l_cell_at), sl_l_cell_at⟩)
    (c_l_cell_at : PySem.W.codeIn K cd_l_cell_at "_law_cell_at" = true)
    (k_l_cell_at : PySem.W.keepIn K (.ref f_l_cell_at) = true)
    (a_is_prime : PySem.W.nsIn K mainGlobals "is_prime" = some (some (.ref f_is_prime)))
    (l_is_prime : K.lookup f_is_prime = some ⟨oc_is_prime, od_is_prime, .func (PySem.W.fnOf "is_prime" "is_prime" (defArgs s_is_prime) (defBody s_is_prime) (defScope s_is_prime) .none kV_is_prime dc_is_prime pm_is_prime an_is_prime cd_is_prime ct_is_prime), sl_is_prime⟩)
    (c_is_prime : PySem.W.codeIn K cd_is_prime "is_prime" = true)
    (k_is_prime : PySem.W.keepIn K (.ref f_is_prime) = true)
    (a_m_init : PySem.W.findIn K (.ref C) "__init__" = some (some (.ref f_m_init)))
    (i_m_init : PySem.W.isFn K (.ref f_m_init) = true)
    (l_m_init : K.lookup f_m_init = some ⟨oc_m_init, od_m_init, .func (PySem.W.fnOf "__init__" "Field.__init__" (defArgs s_m_init) (defBody s_m_init) (defScope s_m_init) .none kV_m_init dc_m_init pm_m_init an_m_init cd_m_init ct_m_init), sl_m_init⟩)
    (c_m_init : PySem.W.codeIn K cd_m_init "Field.__init__" = true)
    (k_m_init : PySem.W.keepIn K (.ref f_m_init) = true)
    (a_law : PySem.W.nsIn K mainGlobals "law" = some (some (.ref f_law)))
    (l_law : K.lookup f_law = some ⟨oc_law, od_law, .func (PySem.W.fnOf "law" "law" (defArgs s_law) (defBody s_law) (defScope s_law) .none kV_law dc_law pm_law an_law cd_law ct_law), sl_law⟩)
    (c_law : PySem.W.codeIn K cd_law "law" = true)
    (k_law : PySem.W.keepIn K (.ref f_law) = true)
    (pgC : PySem.W.plainGet K C Str.empty = true)
    (hdC : PySem.W.hasDictIn K C = true)
    (poC : PySem.W.plainOver K C = true)
    (saC : PySem.W.findIn K (.ref C) "__setattr__" = some (some (.builtin "object.__setattr__")))
    (npC : PySem.W.findIn K (.ref C) "prime" = some none)
    (mkC : PySem.W.makesIn K C = true)
    (kcC : PySem.W.keepIn K (.ref C) = true)
    (aX_NoPrime : PySem.W.nsIn K mainGlobals "NoPrime" = some (some (.ref x_NoPrime)))
    (aX_NoRest : PySem.W.nsIn K mainGlobals "NoRest" = some (some (.ref x_NoRest)))
    (aX_SpinError : PySem.W.nsIn K mainGlobals "SpinError" = some (some (.ref x_SpinError)))
    (kX_NoPrime : PySem.W.keepIn K (.ref x_NoPrime) = true)
    (qX_NoPrime : PySem.W.excIn K x_NoPrime [.type "ValueError", .type "Exception", .type "BaseException", .type "object"] "ValueError.__new__" = true)
    (sX_NoPrime : PySem.W.subIn K (.ref x_NoPrime) (.type "BaseException") = some true)
    (tX_NoPrime : PySem.W.typeIn K (.ref x_NoPrime) = some (.type "type"))
    (eX_NoPrime : PySem.W.exmOne K (.ref x_NoPrime) (.ref x_SpinError) = some true)
    (c1_NoPrime : PySem.W.findIn K (.ref x_NoPrime) "__getattribute__" = some (some (.builtin "BaseException.__getattribute__")))
    (c2_NoPrime : PySem.W.findIn K (.ref x_NoPrime) "__getattr__" = some none)
    (c3_NoPrime : PySem.W.hasDictIn K x_NoPrime = true)
    (c4_NoPrime : PySem.W.findIn K (.ref x_NoPrime) "__class__" = some (some (.builtin "object.__class__")))
    (c5_NoPrime : PySem.W.mroIn K x_NoPrime (.type "object") = some true)
    (kX_NoRest : PySem.W.keepIn K (.ref x_NoRest) = true)
    (qX_NoRest : PySem.W.excIn K x_NoRest [.type "ValueError", .type "Exception", .type "BaseException", .type "object"] "ValueError.__new__" = true)
    (sX_NoRest : PySem.W.subIn K (.ref x_NoRest) (.type "BaseException") = some true)
    (tX_NoRest : PySem.W.typeIn K (.ref x_NoRest) = some (.type "type"))
    (eX_NoRest : PySem.W.exmOne K (.ref x_NoRest) (.ref x_SpinError) = some true)
    (c1_NoRest : PySem.W.findIn K (.ref x_NoRest) "__getattribute__" = some (some (.builtin "BaseException.__getattribute__")))
    (c2_NoRest : PySem.W.findIn K (.ref x_NoRest) "__getattr__" = some none)
    (c3_NoRest : PySem.W.hasDictIn K x_NoRest = true)
    (c4_NoRest : PySem.W.findIn K (.ref x_NoRest) "__class__" = some (some (.builtin "object.__class__")))
    (c5_NoRest : PySem.W.mroIn K x_NoRest (.type "object") = some true)
    (kX_SpinError : PySem.W.keepIn K (.ref x_SpinError) = true)
    (qX_SpinError : PySem.W.excIn K x_SpinError [.type "ValueError", .type "Exception", .type "BaseException", .type "object"] "ValueError.__new__" = true)
    (sX_SpinError : PySem.W.subIn K (.ref x_SpinError) (.type "BaseException") = some true)
    (tX_SpinError : PySem.W.typeIn K (.ref x_SpinError) = some (.type "type"))
    (eX_SpinError : PySem.W.exmOne K (.ref x_SpinError) (.ref x_SpinError) = some true)
    (c1_SpinError : PySem.W.findIn K (.ref x_SpinError) "__getattribute__" = some (some (.builtin "BaseException.__getattribute__")))
    (c2_SpinError : PySem.W.findIn K (.ref x_SpinError) "__getattr__" = some none)
    (c3_SpinError : PySem.W.hasDictIn K x_SpinError = true)
    (c4_SpinError : PySem.W.findIn K (.ref x_SpinError) "__class__" = some (some (.builtin "object.__class__")))
    (c5_SpinError : PySem.W.mroIn K x_SpinError (.type "object") = some true)
    (c6 : PySem.W.specialIn K (.builtin "object.__class__") "__get__" = some (some (.builtin "getset_descriptor.__get__")))
    (c7 : PySem.W.takesIn K (.builtin "object.__class__") = some true)
    (K_NoPrime_NoPrime : PySem.W.kitOne K (.ref x_NoPrime) (.ref x_NoPrime) = some true)
    (K_NoPrime_NoRest : PySem.W.kitOne K (.ref x_NoPrime) (.ref x_NoRest) = some false)
    (K_NoPrime_SpinError : PySem.W.kitOne K (.ref x_NoPrime) (.ref x_SpinError) = some true)
    (V_NoPrime : PySem.W.kitOne K (.ref x_NoPrime) (.type "ValueError") = some true)
    (K_NoRest_NoPrime : PySem.W.kitOne K (.ref x_NoRest) (.ref x_NoPrime) = some false)
    (K_NoRest_NoRest : PySem.W.kitOne K (.ref x_NoRest) (.ref x_NoRest) = some true)
    (K_NoRest_SpinError : PySem.W.kitOne K (.ref x_NoRest) (.ref x_SpinError) = some true)
    (V_NoRest : PySem.W.kitOne K (.ref x_NoRest) (.type "ValueError") = some true)
    (z_ValueError : PySem.W.nsIn K mainGlobals "ValueError" = some none)
    (z_isinstance : PySem.W.nsIn K mainGlobals "isinstance" = some none)
    (z_len : PySem.W.nsIn K mainGlobals "len" = some none)
    (z_range : PySem.W.nsIn K mainGlobals "range" = some none)
    (v_GREATEST : PySem.W.nsIn K mainGlobals "GREATEST" = some (some (.int 997 tk_GREATEST))) :
    ∃ fd : FuncData, (∀ (s : Shared) (v : Value), BindsTo s fd ⟨[v], []⟩ [("script", v)]) ∧ ∀ base : Heap, K.In base → base.Ns mainGlobals mg → FnOk l.prog w K mg base CX0 4 fa fd ["script"] (sp_law K 0) := by
  have e := hfa.symm.trans (PySem.W.mg_of X G a_law)
  cases e
  have F_l_cell_at := fun_mk (st := s_l_cell_at) l_l_cell_at c_l_cell_at k_l_cell_at
  have b_l_cell_at := F_l_cell_at.binds (ps := ["script", "k"]) fun _ _ _ _ _ _ us hl => match us, hl with | [_, _], _ => rfl
  have F_is_prime := fun_mk (st := s_is_prime) l_is_prime c_is_prime k_is_prime
  have b_is_prime := F_is_prime.binds (ps := ["number"]) fun _ _ _ _ _ _ us hl => match us, hl with | [_], _ => rfl
  have F_m_init := fun_mk (st := s_m_init) l_m_init c_m_init k_m_init
  have b_m_init := F_m_init.binds (ps := ["self", "prime"]) fun _ _ _ _ _ _ us hl => match us, hl with | [_, _], _ => rfl
  have F_law := fun_mk (st := s_law) l_law c_law k_law
  have b_law := F_law.binds (ps := ["script"]) fun _ _ _ _ _ _ us hl => match us, hl with | [_], _ => rfl
  let T : Env K mg := { C := C, f_l_cell_at := f_l_cell_at, d_l_cell_at := _, F_l_cell_at := F_l_cell_at, b_l_cell_at := b_l_cell_at, g_l_cell_at := PySem.W.mg_of X G a_l_cell_at, f_is_prime := f_is_prime, d_is_prime := _, F_is_prime := F_is_prime, b_is_prime := b_is_prime, g_is_prime := PySem.W.mg_of X G a_is_prime, f_m_init := f_m_init, d_m_init := _, F_m_init := F_m_init, b_m_init := b_m_init, M_C := ⟨mkC, a_m_init, i_m_init, kcC⟩, f_law := fa, d_law := _, F_law := F_law, b_law := b_law, g_law := PySem.W.mg_of X G a_law, cl_C := ⟨pgC, hdC, poC, saC⟩, np_C := npC, g_C := PySem.W.mg_of X G aC, x_NoPrime := x_NoPrime, X_NoPrime := ⟨PySem.W.mg_of X G aX_NoPrime, kX_NoPrime, qX_NoPrime, sX_NoPrime, tX_NoPrime, eX_NoPrime, ⟨c1_NoPrime, c2_NoPrime, sX_NoPrime, c3_NoPrime, c4_NoPrime, c6, c7, c5_NoPrime⟩⟩, x_NoRest := x_NoRest, X_NoRest := ⟨PySem.W.mg_of X G aX_NoRest, kX_NoRest, qX_NoRest, sX_NoRest, tX_NoRest, eX_NoRest, ⟨c1_NoRest, c2_NoRest, sX_NoRest, c3_NoRest, c4_NoRest, c6, c7, c5_NoRest⟩⟩, x_SpinError := x_SpinError, X_SpinError := ⟨PySem.W.mg_of X G aX_SpinError, kX_SpinError, qX_SpinError, sX_SpinError, tX_SpinError, eX_SpinError, ⟨c1_SpinError, c2_SpinError, sX_SpinError, c3_SpinError, c4_SpinError, c6, c7, c5_SpinError⟩⟩, K_NoPrime_NoPrime := K_NoPrime_NoPrime, K_NoPrime_NoRest := K_NoPrime_NoRest, K_NoPrime_SpinError := K_NoPrime_SpinError, V_NoPrime := V_NoPrime, K_NoRest_NoPrime := K_NoRest_NoPrime, K_NoRest_NoRest := K_NoRest_NoRest, K_NoRest_SpinError := K_NoRest_SpinError, V_NoRest := V_NoRest, n_ValueError := PySem.W.mg_none_of X G z_ValueError, n_isinstance := PySem.W.mg_none_of X G z_isinstance, n_len := PySem.W.mg_none_of X G z_len, n_range := PySem.W.mg_none_of X G z_range, c_GREATEST := ⟨tk_GREATEST, PySem.W.mg_of X G v_GREATEST⟩ }
  exact ⟨T.d_law, fun s v => .of_eq rfl, fun base _ _ => ok_law T⟩
end Spw
open PySem PySem.W PyProof.Rows
set_option maxRecDepth 100000 in
set_option maxHeartbeats 0 in
theorem PySem.Challenge.cw_spinsum_k02_primes_holds : PySem.Challenge.rw_spinsum_k02_primes.Holds := by
  w_on; o_law; k_head; (case hw => w_witness2)
  k_fill
  refine L2.walk_of (l := PySem.Challenge.rw_spinsum_k02_primes) (n := 63) (k := 4) (x := "script") (CX := fun _ => L2.CX0) (sp := fun w => Spw.sp_law _ 0) rfl (by decide) rfl ⟨rfl, by decide, by decide⟩ (fun w h Y => PySem.W.kIn_of Y) ?F (fun _ _ a ns hl _ hS => ⟨a, ns, rfl, hS, hl, fun _ => rfl⟩) (fun _ _ _ _ _ h => h)
  case F =>
    intro w mg fa h KX G hmg
    refine' Spw.all_mk KX G hmg ?aC ?a_l_cell_at ?l_l_cell_at ?c_l_cell_at ?k_l_cell_at ?a_is_prime ?l_is_prime ?c_is_prime ?k_is_prime ?a_m_init ?i_m_init ?l_m_init ?c_m_init ?k_m_init ?a_law ?l_law ?c_law ?k_law ?pgC ?hdC ?poC ?saC ?npC ?mkC ?kcC ?aX_NoPrime ?aX_NoRest ?aX_SpinError ?kX_NoPrime ?qX_NoPrime ?sX_NoPrime ?tX_NoPrime ?eX_NoPrime ?c1_NoPrime ?c2_NoPrime ?c3_NoPrime ?c4_NoPrime ?c5_NoPrime ?kX_NoRest ?qX_NoRest ?sX_NoRest ?tX_NoRest ?eX_NoRest ?c1_NoRest ?c2_NoRest ?c3_NoRest ?c4_NoRest ?c5_NoRest ?kX_SpinError ?qX_SpinError ?sX_SpinError ?tX_SpinError ?eX_SpinError ?c1_SpinError ?c2_SpinError ?c3_SpinError ?c4_SpinError ?c5_SpinError ?c6 ?c7 ?K_NoPrime_NoPrime ?K_NoPrime_NoRest ?K_NoPrime_SpinError ?V_NoPrime ?K_NoRest_NoPrime ?K_NoRest_NoRest ?K_NoRest_SpinError ?V_NoRest ?z_ValueError ?z_isinstance ?z_len ?z_range ?v_GREATEST
    (case aC => k_is)
    (case a_l_cell_at => k_is)
    (case l_l_cell_at => k_is)
    (case c_l_cell_at => k_is)
    (case k_l_cell_at => k_is)
    (case a_is_prime => k_is)
    (case l_is_prime => k_is)
    (case c_is_prime => k_is)
    (case k_is_prime => k_is)
    (case a_m_init => k_is)
    (case i_m_init => k_is)
    (case l_m_init => k_is)
    (case c_m_init => k_is)
    (case k_m_init => k_is)
    (case a_law => k_is)
    (case l_law => k_is)
    (case c_law => k_is)
    (case k_law => k_is)
    (case pgC => k_is)
    (case hdC => k_is)
    (case poC => k_is)
    (case saC => k_is)
    (case npC => k_is)
    (case mkC => k_is)
    (case kcC => k_is)
    (case aX_NoPrime => k_is)
    (case aX_NoRest => k_is)
    (case aX_SpinError => k_is)
    (case kX_NoPrime => k_is)
    (case qX_NoPrime => k_exc)
    (case sX_NoPrime => k_is)
    (case tX_NoPrime => k_is)
    (case eX_NoPrime => kts_exm)
    (case c1_NoPrime => k_is)
    (case c2_NoPrime => k_is)
    (case c3_NoPrime => k_is)
    (case c4_NoPrime => k_is)
    (case c5_NoPrime => k_is)
    (case kX_NoRest => k_is)
    (case qX_NoRest => k_exc)
    (case sX_NoRest => k_is)
    (case tX_NoRest => k_is)
    (case eX_NoRest => kts_exm)
    (case c1_NoRest => k_is)
    (case c2_NoRest => k_is)
    (case c3_NoRest => k_is)
    (case c4_NoRest => k_is)
    (case c5_NoRest => k_is)
    (case kX_SpinError => k_is)
    (case qX_SpinError => k_exc)
    (case sX_SpinError => k_is)
    (case tX_SpinError => k_is)
    (case eX_SpinError => kts_exm)
    (case c1_SpinError => k_is)
    (case c2_SpinError => k_is)
    (case c3_SpinError => k_is)
    (case c4_SpinError => k_is)
    (case c5_SpinError => k_is)
    (case c6 => k_is)
    (case c7 => k_is)
    (case K_NoPrime_NoPrime => kit_is)
    (case K_NoPrime_NoRest => kit_is)
    (case K_NoPrime_SpinError => kit_is)
    (case V_NoPrime => kit_is)
    (case K_NoRest_NoPrime => kit_is)
    (case K_NoRest_NoRest => kit_is)
    (case K_NoRest_SpinError => kit_is)
    (case V_NoRest => kit_is)
    (case z_ValueError => k_is)
    (case z_isinstance => k_is)
    (case z_len => k_is)
    (case z_range => k_is)
    (case v_GREATEST => k_is)
