import PyProof.Rows.All
import Wide.All
import OpenK.AllK
import Wide.FinOn
import PyProof.EqAt
import PyProof.EqKinds
import PyProof.TupleCall
import HandS.ForMost
import HandS.IsInst
import HandS.SortInts
import HandS.Zip
import HandS.Wide
import HandS.NoneIn
import HandS.Conv
import HandS.Rev
import HandS.Exc
import HandS.ExcOwn
import HandS.WordsExc
import HandS.ExcIs
import HandS.HotCalls
import HandS.More
import PySem.Challenge.RW_spinsum_k14_each_refusal_its_own
set_option Elab.async false
set_option linter.all false
set_option maxRecDepth 100000
set_option maxHeartbeats 4000000

namespace Spm
/-! Sums and rows over a commutative ring. -/
open Lean.Grind
section
variable {R : Type} [CommRing R]
def S (f : Nat → R) : Nat → R
  | 0 => 0
  | n + 1 => S f n + f n
theorem S_zero (f : Nat → R) : S f 0 = 0 := rfl
theorem S_succ (f : Nat → R) (n : Nat) : S f (n + 1) = S f n + f n := rfl
theorem S_congr {f g : Nat → R} : ∀ {n : Nat}, (∀ i, i < n → f i = g i) → S f n = S g n
  | 0, _ => rfl
  | n + 1, h => by
    rw [S_succ, S_succ, S_congr (fun i hi => h i (Nat.lt_succ_of_lt hi)), h n (Nat.lt_succ_self n)]
theorem S_add (f g : Nat → R) : ∀ n, S (fun i => f i + g i) n = S f n + S g n
  | 0 => by simp only [S_zero]; grind
  | n + 1 => by
    have ih := S_add f g n
    simp only [S_succ]; rw [ih]; grind
theorem S_mul (c : R) (f : Nat → R) : ∀ n, S (fun i => c * f i) n = c * S f n
  | 0 => by simp only [S_zero]; grind
  | n + 1 => by
    have ih := S_mul c f n
    simp only [S_succ]; rw [ih]; grind
theorem S_mul_r (c : R) (f : Nat → R) (n : Nat) : S (fun i => f i * c) n = S f n * c := by
  have h := S_mul c f n
  rw [S_congr (g := fun i => c * f i) (fun i _ => by grind), h]; grind
theorem S_nil (n : Nat) : S (fun _ => (0 : R)) n = 0 := by
  induction n with
  | zero => rfl
  | succ n ih => rw [S_succ, ih]; grind
theorem S_eq0 {f : Nat → R} {n : Nat} (h : ∀ i, i < n → f i = 0) : S f n = 0 := by
  rw [S_congr (g := fun _ => (0 : R)) h, S_nil]
theorem S_swap (f : Nat → Nat → R) (m : Nat) : ∀ n, S (fun i => S (fun j => f i j) m) n = S (fun j => S (fun i => f i j) n) m
  | 0 => by
    rw [S_zero, S_eq0]; intro i _; rfl
  | n + 1 => by
    rw [S_succ, S_swap f m n, ← S_add]
    rfl
theorem S_left (f : Nat → R) : ∀ n, S f (n + 1) = f 0 + S (fun i => f (i + 1)) n
  | 0 => by simp only [S_succ, S_zero]; grind
  | n + 1 => by
    rw [S_succ, S_left f n, S_succ]; grind
/-- a sum of which one place alone counts -/
theorem S_one (f : Nat → R) (k : Nat) : ∀ n, k < n → (∀ i, i < n → i ≠ k → f i = 0) → S f n = f k
  | 0, h, _ => absurd h (Nat.not_lt_zero _)
  | n + 1, h, z => by
    rw [S_succ]
    by_cases e : k = n
    · subst e
      rw [S_eq0 fun i hi => z i (Nat.lt_succ_of_lt hi) (Nat.ne_of_lt hi)]; grind
    · rw [S_one f k n (by omega) fun i hi ne => z i (Nat.lt_succ_of_lt hi) ne, z n (Nat.lt_succ_self n) fun q => e q.symm]; grind
theorem S_if (f : Nat → R) (k n : Nat) (h : k < n) : S (fun i => if i = k then f i else 0) n = f k := by
  rw [S_one _ k n h]
  · simp
  · intro i _ ne; simp [ne]
/-- with a test that only k fits -/
theorem S_pick (f : Nat → R) (c : Nat → Prop) [DecidablePred c] (k n : Nat) (h : k < n) (hc : ∀ i, i < n → (c i ↔ i = k)) : S (fun i => if c i then f i else 0) n = f k := by
  rw [S_one _ k n h]
  · rw [if_pos ((hc k h).mpr rfl)]
  · intro i hi ne
    rw [if_neg fun q => ne ((hc i hi).mp q)]
theorem S_cut (f : Nat → R) (n : Nat) : ∀ m, (∀ i, n ≤ i → i < n + m → f i = 0) → S f (n + m) = S f n
  | 0, _ => rfl
  | m + 1, h => by
    rw [← Nat.add_assoc, S_succ, S_cut f n m (fun i a b => h i a (by omega)), h (n + m) (by omega) (by omega)]; grind
/-! ### powers -/
theorem pw_zero (x : R) : x ^ 0 = 1 := Semiring.pow_zero x
theorem pw_succ (x : R) (n : Nat) : x ^ (n + 1) = x ^ n * x := Semiring.pow_succ x n
theorem pw_add (x : R) (m : Nat) : ∀ n : Nat, x ^ (m + n) = x ^ m * x ^ n
  | 0 => by rw [Nat.add_zero, pw_zero]; grind
  | n + 1 => by rw [← Nat.add_assoc, pw_succ, pw_add x m n, pw_succ]; grind
theorem pw_one : ∀ n : Nat, (1 : R) ^ n = 1
  | 0 => pw_zero 1
  | n + 1 => by rw [pw_succ, pw_one n]; grind
theorem pw_mul (x : R) (m : Nat) : ∀ n : Nat, x ^ (m * n) = (x ^ m) ^ n
  | 0 => by rw [Nat.mul_zero, pw_zero, pw_zero]
  | n + 1 => by rw [Nat.mul_succ, pw_add, pw_mul x m n, pw_succ]
theorem pw_mulb (x y : R) : ∀ n : Nat, (x * y) ^ n = x ^ n * y ^ n
  | 0 => by rw [pw_zero, pw_zero, pw_zero]; grind
  | n + 1 => by rw [pw_succ, pw_mulb x y n, pw_succ, pw_succ]; grind
theorem pw_mod {x : R} {n : Nat} (h : x ^ n = 1) (m : Nat) : x ^ (m % n) = x ^ m := by
  have e := Nat.div_add_mod m n
  have q : x ^ m = x ^ (n * (m / n) + m % n) := by rw [e]
  rw [q, pw_add, pw_mul, h, pw_one]; grind
/-- the sum of a geometric row -/
theorem geo (x : R) : ∀ n : Nat, (x - 1) * S (fun j => x ^ j) n = x ^ n - 1
  | 0 => by rw [S_zero, pw_zero]; grind
  | n + 1 => by
    have ih := geo x n
    rw [S_succ, pw_succ]; grind
/-- a number of times 1 -/
def N (R : Type) [CommRing R] (n : Nat) : R := S (fun _ => (1 : R)) n
theorem N_succ (n : Nat) : N R (n + 1) = N R n + 1 := rfl
/-- no zero divisors -/
def Dom (R : Type) [CommRing R] : Prop := ∀ a b : R, a * b = 0 → a = 0 ∨ b = 0
theorem geo0 (D : Dom R) {x : R} {n : Nat} (h : x ^ n = 1) (h1 : x ≠ 1) : S (fun j => x ^ j) n = 0 := by
  have e := geo x n
  rw [h] at e
  have e' : (x - 1) * S (fun j => x ^ j) n = 0 := by rw [e]; grind
  rcases D _ _ e' with z | z
  · exact absurd (by grind) h1
  · exact z
theorem geo1 {x : R} (n : Nat) (h : x = 1) : S (fun j => x ^ j) n = N R n := by
  subst h
  exact S_congr fun i _ => pw_one i
/-! ### a root of a size -/
/-- w is of order n -/
structure Root (w : R) (n : Nat) : Prop where
  pos : 0 < n
  one : w ^ n = 1
  low : ∀ k, 0 < k → k < n → w ^ k ≠ 1
theorem Root.eq1 {w : R} {n : Nat} (h : Root w n) (k : Nat) : w ^ k = 1 ↔ k % n = 0 := by
  constructor
  · intro e
    rw [← pw_mod h.one] at e
    by_cases z : k % n = 0
    · exact z
    · exact absurd e (h.low _ (Nat.pos_of_ne_zero z) (Nat.mod_lt _ h.pos))
  · intro e
    rw [← pw_mod h.one, e, pw_zero]
theorem Root.inv {w wi : R} {n : Nat} (h : Root w n) (hi : w * wi = 1) : Root wi n := by
  have q : ∀ k : Nat, w ^ k * wi ^ k = 1 := fun k => by rw [← pw_mulb, hi, pw_one]
  refine ⟨h.pos, ?_, fun k a b e => h.low k a b ?_⟩
  · have z := q n
    rw [h.one] at z
    grind
  · have z := q k
    rw [e] at z
    grind
/-- orthogonality, with sums of exponents -/
theorem Root.orth (D : Dom R) {w : R} {n : Nat} (h : Root w n) (m : Nat) : S (fun j => w ^ (j * m)) n = if m % n = 0 then N R n else 0 := by
  have e : S (fun j => w ^ (j * m)) n = S (fun j => (w ^ m) ^ j) n := S_congr fun j _ => by rw [Nat.mul_comm, pw_mul]
  rw [e]
  by_cases z : m % n = 0
  · rw [if_pos z, geo1 n ((h.eq1 m).mpr z)]
  · rw [if_neg z]
    refine geo0 D ?_ fun q => z ((h.eq1 m).mp q)
    rw [← pw_mul, Nat.mul_comm, pw_mul, h.one, pw_one]
/-- w^a * wi^b with wi the inverse -/
theorem Root.inv_pow {w wi : R} {n : Nat} (h : Root w n) (hi : w * wi = 1) (b : Nat) (hb : b ≤ n) : wi ^ b = w ^ (n - b) := by
  have q : w ^ b * wi ^ b = 1 := by rw [← pw_mulb, hi, pw_one]
  have e : w ^ (n - b) * w ^ b = 1 := by rw [← pw_add, Nat.sub_add_cancel hb, h.one]
  grind
/-! ### the transform -/
def F (w : R) (n : Nat) (f : Nat → R) (k : Nat) : R := S (fun j => f j * w ^ (j * k)) n
theorem F_congr {w : R} {n : Nat} {f g : Nat → R} (h : ∀ i, i < n → f i = g i) (k : Nat) : F w n f k = F w n g k := S_congr fun i hi => by rw [h i hi]
/-- transformed twice -/
theorem F_F (D : Dom R) {w : R} {n : Nat} (h : Root w n) (f : Nat → R) (m : Nat) (hm : m < n) : F w n (F w n f) m = N R n * f ((n - m) % n) := by
  unfold F
  have e : S (fun k => S (fun j => f j * w ^ (j * k)) n * w ^ (k * m)) n = S (fun j => if j = (n - m) % n then f j * N R n else 0) n := by
    rw [S_congr (g := fun k => S (fun j => f j * w ^ (j * k) * w ^ (k * m)) n) fun k _ => by rw [S_mul_r], S_swap]
    refine S_congr fun j hj => ?_
    rw [S_congr (g := fun k => f j * w ^ (k * (j + m))) fun k _ => by
      rw [Semiring.mul_assoc, ← pw_add, Nat.mul_add, Nat.mul_comm j k], S_mul, h.orth D]
    by_cases z : (j + m) % n = 0
    · rw [if_pos z, if_pos]
      have hn := h.pos
      by_cases h0 : m = 0
      · subst h0
        rw [Nat.add_zero, Nat.mod_eq_of_lt hj] at z
        rw [Nat.sub_zero, Nat.mod_self]; exact z
      · rw [Nat.mod_eq_of_lt (by omega)]
        have a : j + m < 2 * n := by omega
        have b : j + m = n := by
          rcases Nat.lt_or_ge (j + m) n with q | q
          · rw [Nat.mod_eq_of_lt q] at z; omega
          · have : (j + m - n) % n = 0 := by rw [← Nat.mod_eq_sub_mod q]; exact z
            rw [Nat.mod_eq_of_lt (by omega)] at this; omega
        omega
    · rw [if_neg z, if_neg]
      · grind
      · intro q
        refine z ?_
        have hn := h.pos
        by_cases h0 : m = 0
        · subst h0
          rw [Nat.sub_zero, Nat.mod_self] at q
          subst q; simp
        · rw [Nat.mod_eq_of_lt (by omega)] at q
          rw [q, Nat.sub_add_cancel (by omega), Nat.mod_self]
  rw [e, S_if _ _ _ (Nat.mod_lt _ h.pos)]; grind
/-- at the inverse root -/
theorem F_inv {w wi : R} {n : Nat} (h : Root w n) (hi : w * wi = 1) (f : Nat → R) (k : Nat) (hk : k < n) : F wi n f k = F w n f ((n - k) % n) := by
  refine S_congr fun j _ => ?_
  have e : wi ^ (j * k) = w ^ (j * ((n - k) % n)) := by
    rw [Nat.mul_comm, pw_mul, h.inv_pow hi k (Nat.le_of_lt hk), ← pw_mul, Nat.mul_comm j, pw_mul w ((n - k) % n), pw_mod h.one, ← pw_mul]
  rw [e]
/-- there and back -/
theorem F_back (D : Dom R) {w wi : R} {n : Nat} (h : Root w n) (hi : w * wi = 1) (f : Nat → R) (m : Nat) (hm : m < n) : F wi n (F w n f) m = N R n * f m := by
  rw [F_inv h hi _ m hm, F_F D h _ _ (Nat.mod_lt _ h.pos)]
  have e : (n - (n - m) % n) % n = m := by
    by_cases h0 : m = 0
    · subst h0; simp
    · rw [Nat.mod_eq_of_lt (show n - m < n by omega), Nat.mod_eq_of_lt (by omega)]; omega
  rw [e]
/-! ### the ring product -/
def C (n : Nat) (f g : Nat → R) (k : Nat) : R := S (fun i => S (fun j => if (i + j) % n = k then f i * g j else 0) n) n
theorem C_comm (n : Nat) (f g : Nat → R) (k : Nat) : C n f g k = C n g f k := by
  unfold C
  rw [S_swap]
  refine S_congr fun j _ => S_congr fun i _ => ?_
  rw [Nat.add_comm i j]
  by_cases h : (j + i) % n = k
  · rw [if_pos h, if_pos h]; grind
  · rw [if_neg h, if_neg h]
theorem F_C {w : R} {n : Nat} (hn : 0 < n) (h : w ^ n = 1) (f g : Nat → R) (m : Nat) : F w n (C n f g) m = F w n f m * F w n g m := by
  unfold F C
  have e1 : S (fun k => S (fun i => S (fun j => if (i + j) % n = k then f i * g j else 0) n) n * w ^ (k * m)) n
      = S (fun i => S (fun j => f i * g j * w ^ ((i + j) * m)) n) n := by
    rw [S_congr (g := fun k => S (fun i => S (fun j => if (i + j) % n = k then f i * g j * w ^ (k * m) else 0) n) n) fun k _ => by
      rw [← S_mul_r]
      refine S_congr fun i _ => ?_
      rw [← S_mul_r]
      refine S_congr fun j _ => ?_
      by_cases h : (i + j) % n = k
      · rw [if_pos h, if_pos h]
      · rw [if_neg h, if_neg h]; grind]
    rw [S_swap]
    refine S_congr fun i _ => ?_
    rw [S_swap]
    refine S_congr fun j _ => ?_
    rw [S_pick (fun k => f i * g j * w ^ (k * m)) (fun k => (i + j) % n = k) ((i + j) % n) n (Nat.mod_lt _ hn) fun k _ => ⟨fun q => q.symm, fun q => q.symm⟩]
    show f i * g j * w ^ ((i + j) % n * m) = f i * g j * w ^ ((i + j) * m)
    rw [pw_mul w ((i + j) % n), pw_mod h, ← pw_mul]
  rw [e1, ← S_mul_r]
  refine S_congr fun i _ => ?_
  rw [← S_mul]
  refine S_congr fun j _ => ?_
  rw [Nat.add_mul, pw_add]; grind
/-- as the law reckons it: by the place that is left -/
theorem C_law {n : Nat} (f g : Nat → R) (k : Nat) (hk : k < n) (d : Nat → Nat) (hd : ∀ i, i < n → d i < n ∧ ∀ j, j < n → ((i + j) % n = k ↔ j = d i)) : C n f g k = S (fun i => f i * g (d i)) n := by
  unfold C
  refine S_congr fun i hi => ?_
  obtain ⟨a, b⟩ := hd i hi
  exact S_pick (fun j => f i * g j) (fun j => (i + j) % n = k) (d i) n a b
/-! ### sums of products of transforms -/
theorem parseval (D : Dom R) {w : R} {n : Nat} (h : Root w n) (f g : Nat → R) : S (fun k => F w n f k * F w n g k) n = N R n * S (fun i => f i * g ((n - i) % n)) n := by
  have e : S (fun k => F w n f k * F w n g k) n = S (fun i => f i * F w n (F w n g) i) n := by
    unfold F
    rw [S_congr (g := fun k => S (fun i => f i * (S (fun j => g j * w ^ (j * k)) n * w ^ (k * i))) n) fun k _ => by
      rw [← S_mul_r]
      refine S_congr fun i _ => ?_
      rw [Nat.mul_comm k i]; grind]
    rw [S_swap]
    refine S_congr fun i _ => ?_
    rw [S_mul]
  rw [e, ← S_mul]
  refine S_congr fun i hi => ?_
  rw [F_F D h g i hi]; grind
end
end Spm

namespace Spm
open Lean.Grind
section
variable {R : Type} [CommRing R]
/-! Rows as polynomials. -/
def ev : List R → R → R
  | [], _ => 0
  | c :: cs, x => c + x * ev cs x
theorem ev_S : ∀ (l : List R) (x : R), ev l x = S (fun j => l.getD j 0 * x ^ j) l.length
  | [], x => rfl
  | c :: cs, x => by
    show c + x * ev cs x = S _ (cs.length + 1)
    rw [S_left, ev_S cs x, ← S_mul, pw_zero]
    have e : S (fun i => x * (cs.getD i 0 * x ^ i)) cs.length = S (fun i => (c :: cs).getD (i + 1) 0 * x ^ (i + 1)) cs.length := S_congr fun i _ => by
      rw [pw_succ]; show x * (cs.getD i 0 * x ^ i) = cs.getD i 0 * (x ^ i * x); grind
    rw [e]
    show c + _ = c * 1 + _
    grind
/-- the row that is left when x - a is taken out -/
def qd (a : R) : List R → List R
  | [] => []
  | [_] => []
  | _ :: c :: cs => ev (c :: cs) a :: qd a (c :: cs)
theorem qd_len (a : R) : ∀ l : List R, (qd a l).length = l.length - 1
  | [] => rfl
  | [_] => rfl
  | _ :: c :: cs => by
    show (qd a (c :: cs)).length + 1 = _
    rw [qd_len a (c :: cs)]; rfl
theorem qd_ev (a x : R) : ∀ l : List R, ev l x = ev l a + (x - a) * ev (qd a l) x
  | [] => by simp only [ev, qd]; grind
  | [c] => by simp only [ev, qd]; grind
  | b :: c :: cs => by
    have ih := qd_ev a x (c :: cs)
    show b + x * ev (c :: cs) x = b + a * ev (c :: cs) a + (x - a) * (ev (c :: cs) a + x * ev (qd a (c :: cs)) x)
    rw [ih]; grind
theorem qd_zero (a : R) : ∀ l : List R, (∀ c ∈ qd a l, c = 0) → ev l a = 0 → ∀ c ∈ l, c = 0
  | [], _, _ => by simp
  | [c], _, h => by
    intro d hd
    have e : d = c := by simpa using hd
    subst e
    simp only [ev] at h; grind
  | b :: c :: cs, h, h0 => by
    have h1 : ev (c :: cs) a = 0 := h _ (List.mem_cons_self ..)
    have ih := qd_zero a (c :: cs) (fun d hd => h d (List.mem_cons_of_mem _ hd)) h1
    have hb : b + a * ev (c :: cs) a = 0 := h0
    intro d hd
    rcases List.mem_cons.mp hd with e | e
    · subst e; rw [h1] at hb; grind
    · exact ih d e
/-- a row with as many worths 0 at unlike places as it has numbers is 0 -/
theorem ev_zero (D : Dom R) : ∀ (xs l : List R), l.length ≤ xs.length → xs.Nodup → (∀ x ∈ xs, ev l x = 0) → ∀ c ∈ l, c = 0
  | [], l, hl, _, _ => by
    have : l = [] := List.length_eq_zero_iff.mp (by simpa using hl)
    subst this; simp
  | a :: xs, l, hl, nd, h => by
    have ha := h a (List.mem_cons_self ..)
    refine qd_zero a l (ev_zero D xs (qd a l) (by rw [qd_len]; simp at hl; omega) (List.nodup_cons.mp nd).2 fun x hx => ?_) ha
    have e := qd_ev a x l
    rw [h x (List.mem_cons_of_mem _ hx), ha] at e
    have e' : (x - a) * ev (qd a l) x = 0 := by grind
    rcases D _ _ e' with z | z
    · exfalso
      have : x = a := by grind
      subst this
      exact (List.nodup_cons.mp nd).1 hx
    · exact z
theorem ev_sub : ∀ (l m : List R) (x : R), l.length = m.length → ev (List.zipWith (· - ·) l m) x = ev l x - ev m x
  | [], [], x, _ => by simp only [List.zipWith_nil_left, ev]; grind
  | [], _ :: _, _, h => by simp at h
  | _ :: _, [], _, h => by simp at h
  | a :: l, b :: m, x, h => by
    have ih := ev_sub l m x (by simpa using h)
    show (a - b) + x * ev (List.zipWith (· - ·) l m) x = (a + x * ev l x) - (b + x * ev m x)
    rw [ih]; grind
theorem zip_eq : ∀ (l m : List R), l.length = m.length → (∀ c ∈ List.zipWith (· - ·) l m, c = 0) → l = m
  | [], [], _, _ => rfl
  | [], _ :: _, h, _ => by simp at h
  | _ :: _, [], h, _ => by simp at h
  | a :: l, b :: m, h, z => by
    have h1 : a - b = 0 := z _ (List.mem_cons_self ..)
    have ih := zip_eq l m (by simpa using h) fun c hc => z c (List.mem_cons_of_mem _ hc)
    rw [ih]
    have : a = b := by grind
    rw [this]
/-- two rows of one length with the same worths at so many unlike places are one -/
theorem ev_eq (D : Dom R) {xs l m : List R} (h1 : l.length = xs.length) (h2 : m.length = xs.length) (nd : xs.Nodup) (h : ∀ x ∈ xs, ev l x = ev m x) : l = m := by
  have e := h1.trans h2.symm
  refine zip_eq l m e (ev_zero D xs _ (by rw [List.length_zipWith, h1, h2, Nat.min_self]; exact Nat.le_refl _) nd fun x hx => ?_)
  rw [ev_sub l m x e, h x hx]; grind
/-! ### the plain product -/
def P (n m : Nat) (f g : Nat → R) (k : Nat) : R := S (fun i => S (fun j => if i + j = k then f i * g j else 0) m) n
theorem P_comm (n m : Nat) (f g : Nat → R) (k : Nat) : P n m f g k = P m n g f k := by
  unfold P
  rw [S_swap]
  refine S_congr fun j _ => S_congr fun i _ => ?_
  rw [Nat.add_comm i j]
  by_cases h : j + i = k
  · rw [if_pos h, if_pos h]; grind
  · rw [if_neg h, if_neg h]
theorem P_ev {n m L : Nat} (hL : ∀ i j, i < n → j < m → i + j < L) (f g : Nat → R) (x : R) :
    S (fun k => P n m f g k * x ^ k) L = S (fun i => f i * x ^ i) n * S (fun j => g j * x ^ j) m := by
  have e1 : S (fun k => P n m f g k * x ^ k) L = S (fun i => S (fun j => f i * g j * x ^ (i + j)) m) n := by
    unfold P
    rw [S_congr (g := fun k => S (fun i => S (fun j => if i + j = k then f i * g j * x ^ k else 0) m) n) fun k _ => by
      rw [← S_mul_r]
      refine S_congr fun i _ => ?_
      rw [← S_mul_r]
      refine S_congr fun j _ => ?_
      by_cases h : i + j = k
      · rw [if_pos h, if_pos h]
      · rw [if_neg h, if_neg h]; grind]
    rw [S_swap]
    refine S_congr fun i hi => ?_
    rw [S_swap]
    refine S_congr fun j hj => ?_
    exact S_pick (fun k => f i * g j * x ^ k) (fun k => i + j = k) (i + j) L (hL i j hi hj) fun k _ => ⟨fun q => q.symm, fun q => q.symm⟩
  rw [e1, ← S_mul_r]
  refine S_congr fun i _ => ?_
  rw [← S_mul]
  refine S_congr fun j _ => ?_
  rw [pw_add]; grind
/-- the ring product by the plain one -/
theorem C_P {n L : Nat} (hL : ∀ i j, i < n → j < n → i + j < L) (f g : Nat → R) (k : Nat) : C n f g k = S (fun m => if m % n = k then P n n f g m else 0) L := by
  have e : S (fun m => if m % n = k then P n n f g m else 0) L = S (fun m => S (fun i => S (fun j => if i + j = m then (if m % n = k then f i * g j else 0) else 0) n) n) L := S_congr fun m _ => by
    by_cases h : m % n = k
    · rw [if_pos h]
      refine S_congr fun i _ => S_congr fun j _ => ?_
      rw [if_pos h]
    · rw [if_neg h, S_eq0]
      intro i _
      refine S_eq0 fun j _ => ?_
      rw [if_neg h]; split <;> rfl
  rw [e, S_swap]
  refine S_congr fun i hi => ?_
  rw [S_swap]
  refine S_congr fun j hj => ?_
  rw [S_pick (fun m => if m % n = k then f i * g j else 0) (fun m => i + j = m) (i + j) L (hL i j hi hj) fun k _ => ⟨fun q => q.symm, fun q => q.symm⟩]
end
end Spm

namespace Spm
/-- not told apart by a part below 32 -/
def sf (n : Nat) : Bool := (List.range 32).all fun d => Nat.ble d 1 || Nat.ble n d || !(Nat.beq (n % d) 0)
def flB (p : Nat) : Bool := (List.range p).all fun a => Nat.beq a 0 || Nat.beq (a ^ (p - 1) % p) 1
def goB (p g : Nat) : Nat → Nat → Bool
  | 0, _ => true
  | n + 1, h => !(Nat.beq h 1) && goB p g n (h * g % p)
def gens : List (Nat × Nat) := [(2, 1), (3, 2), (5, 2), (7, 3), (11, 2), (13, 2), (17, 3), (19, 2), (23, 5), (29, 2), (31, 3), (37, 2), (41, 6), (43, 3), (47, 5), (53, 2), (59, 2), (61, 2), (67, 2), (71, 7), (73, 5), (79, 3), (83, 2), (89, 3), (97, 5), (101, 2), (103, 5), (107, 2), (109, 6), (113, 3), (127, 3), (131, 2), (137, 3), (139, 2), (149, 2), (151, 6), (157, 5), (163, 2), (167, 5), (173, 2), (179, 2), (181, 2), (191, 19), (193, 5), (197, 2), (199, 3), (211, 2), (223, 3), (227, 2), (229, 6), (233, 3), (239, 7), (241, 7), (251, 6), (257, 3), (263, 5), (269, 2), (271, 6), (277, 5), (281, 3), (283, 3), (293, 2), (307, 5), (311, 17), (313, 10), (317, 2), (331, 3), (337, 10), (347, 2), (349, 2), (353, 3), (359, 7), (367, 6), (373, 2), (379, 2), (383, 5), (389, 2), (397, 5), (401, 3), (409, 21), (419, 2), (421, 2), (431, 7), (433, 5), (439, 15), (443, 2), (449, 3), (457, 13), (461, 2), (463, 3), (467, 2), (479, 13), (487, 3), (491, 2), (499, 7), (503, 5), (509, 2), (521, 3), (523, 2), (541, 2), (547, 2), (557, 2), (563, 2), (569, 3), (571, 3), (577, 5), (587, 2), (593, 3), (599, 7), (601, 7), (607, 3), (613, 2), (617, 3), (619, 2), (631, 3), (641, 3), (643, 11), (647, 5), (653, 2), (659, 2), (661, 2), (673, 5), (677, 2), (683, 5), (691, 3), (701, 2), (709, 2), (719, 11), (727, 5), (733, 6), (739, 3), (743, 5), (751, 3), (757, 2), (761, 6), (769, 11), (773, 2), (787, 2), (797, 2), (809, 3), (811, 3), (821, 2), (823, 3), (827, 2), (829, 2), (839, 11), (853, 2), (857, 3), (859, 2), (863, 5), (877, 2), (881, 3), (883, 2), (887, 5), (907, 2), (911, 17), (919, 7), (929, 3), (937, 5), (941, 2), (947, 2), (953, 3), (967, 5), (971, 6), (977, 3), (983, 5), (991, 6), (997, 7)]
def gOf (n : Nat) : List (Nat × Nat) → Nat
  | [] => 0
  | x :: r => bif Nat.beq x.1 n then x.2 else gOf n r
def goodB (n : Nat) : Bool := flB n && (goB n (gOf n gens) (n - 2) (gOf n gens) && (Nat.ble 1 (gOf n gens) && Nat.blt (gOf n gens) n))
def allB : Bool := (List.range 998).all fun n => Nat.ble n 1 || !(sf n) || goodB n
theorem all_true : allB = true := by decide +kernel
end Spm

namespace Spm
open Lean.Grind
/-! ### what a prime to 997 is known by -/
structure Good (p : Nat) : Prop where
  two : 2 ≤ p
  le : p ≤ 997
  fl : ∀ a : Nat, 0 < a → a < p → a ^ (p - 1) % p = 1
  gen : ∃ g : Nat, 0 < g ∧ g < p ∧ ∀ k : Nat, 0 < k → k < p - 1 → g ^ k % p ≠ 1
theorem goB_ok {p g : Nat} : ∀ (n h : Nat), h < p → goB p g n h = true → ∀ k, k < n → (h * g ^ k) % p ≠ 1
  | 0, _, _, _, k, hk => absurd hk (Nat.not_lt_zero _)
  | n + 1, h, hp, e, k, hk => by
    have e' : ((!(Nat.beq h 1)) && goB p g n (h * g % p)) = true := e
    rw [Bool.and_eq_true] at e'
    obtain ⟨e1, e2⟩ := e'
    cases k with
    | zero =>
      rw [Nat.pow_zero, Nat.mul_one, Nat.mod_eq_of_lt hp]
      intro q; rw [q] at e1; exact absurd e1 (by decide)
    | succ k =>
      have ih := goB_ok n (h * g % p) (Nat.mod_lt _ (by omega)) e2 k (by omega)
      rw [Nat.pow_succ, Nat.mul_comm (g ^ k) g, ← Nat.mul_assoc, Nat.mul_mod, ← Nat.mod_mod (h * g), ← Nat.mul_mod]
      exact ih
/-- no part below 32 -/
def SF (n : Nat) : Prop := 2 ≤ n ∧ n ≤ 997 ∧ ∀ d : Nat, 2 ≤ d → d < 32 → d < n → n % d ≠ 0
theorem good_of {n : Nat} (h : SF n) : Good n := by
  obtain ⟨h2, h3, h4⟩ := h
  have e : sf n = true := by
    refine List.all_eq_true.mpr fun d hd => ?_
    have hd' := List.mem_range.mp hd
    by_cases a : d ≤ 1
    · have := Nat.ble_eq.mpr a; simp [this]
    · by_cases b : n ≤ d
      · have := Nat.ble_eq.mpr b; simp [this]
      · have z := h4 d (by omega) hd' (by omega)
        have : Nat.beq (n % d) 0 = false := by
          cases q : Nat.beq (n % d) 0 with
          | false => rfl
          | true => exact absurd (Nat.eq_of_beq_eq_true q) z
        simp [this]
  have t := List.all_eq_true.mp all_true n (List.mem_range.mpr (by omega))
  rw [e] at t
  have n1 : Nat.ble n 1 = false := by
    cases q : Nat.ble n 1 with
    | false => rfl
    | true => exact absurd (Nat.ble_eq.mp q) (by omega)
  rw [n1] at t
  simp only [Bool.not_true, Bool.false_or] at t
  unfold goodB at t
  simp only [Bool.and_eq_true] at t
  obtain ⟨f, g, g1, g2⟩ := t
  refine ⟨h2, h3, fun a a0 ap => ?_, gOf n gens, Nat.ble_eq.mp g1, ?_, fun k k0 kn => ?_⟩
  · have q := List.all_eq_true.mp f a (List.mem_range.mpr ap)
    have z : Nat.beq a 0 = false := by
      cases q : Nat.beq a 0 with
      | false => rfl
      | true => exact absurd (Nat.eq_of_beq_eq_true q) (by omega)
    rw [z, Bool.false_or] at q
    exact Nat.eq_of_beq_eq_true q
  · exact Nat.ble_eq.mp g2
  · have q := goB_ok _ _ (Nat.ble_eq.mp g2) g (k - 1) (by omega)
    have : gOf n gens * gOf n gens ^ (k - 1) = gOf n gens ^ k := by
      rw [Nat.mul_comm, ← Nat.pow_succ]; congr 1; omega
    rw [this] at q
    exact q
/-! ### rests -/
/-- the way from the whole numbers to the rests by p -/
structure Hom (p : Nat) (R : Type) [CommRing R] where
  ph : Int → R
  add : ∀ a b, ph (a + b) = ph a + ph b
  mul : ∀ a b, ph (a * b) = ph a * ph b
  one : ph 1 = 1
  inj : ∀ a b, ph a = ph b ↔ a % (p : Int) = b % (p : Int)
  sur : ∀ x : R, ∃ a : Int, 0 ≤ a ∧ a < (p : Int) ∧ ph a = x
def fhom (p : Nat) [NeZero p] : Hom p (Fin p) where
  ph := fun x => ⟨(x % (p : Int)).toNat, by
    have h0 : (p : Int) ≠ 0 := by have := NeZero.ne p; omega
    have h1 := Int.emod_nonneg x h0
    have h2 := Int.emod_lt_of_pos x (show (0 : Int) < p by have := NeZero.ne p; omega)
    omega⟩
  add := fun a b => by
    have h0 : (p : Int) ≠ 0 := by have := NeZero.ne p; omega
    refine Fin.ext ?_
    show ((a + b) % (p : Int)).toNat = ((a % (p : Int)).toNat + (b % (p : Int)).toNat) % p
    refine Int.ofNat.inj ?_
    show (((a + b) % (p : Int)).toNat : Int) = (((a % (p : Int)).toNat + (b % (p : Int)).toNat) % p : Nat)
    rw [Int.toNat_of_nonneg (Int.emod_nonneg _ h0), Int.natCast_emod, Int.natCast_add, Int.toNat_of_nonneg (Int.emod_nonneg _ h0), Int.toNat_of_nonneg (Int.emod_nonneg _ h0), ← Int.add_emod]
  mul := fun a b => by
    have h0 : (p : Int) ≠ 0 := by have := NeZero.ne p; omega
    refine Fin.ext ?_
    show ((a * b) % (p : Int)).toNat = ((a % (p : Int)).toNat * (b % (p : Int)).toNat) % p
    refine Int.ofNat.inj ?_
    show (((a * b) % (p : Int)).toNat : Int) = (((a % (p : Int)).toNat * (b % (p : Int)).toNat) % p : Nat)
    rw [Int.toNat_of_nonneg (Int.emod_nonneg _ h0), Int.natCast_emod, Int.natCast_mul, Int.toNat_of_nonneg (Int.emod_nonneg _ h0), Int.toNat_of_nonneg (Int.emod_nonneg _ h0), ← Int.mul_emod]
  one := by
    have h0 : (p : Int) ≠ 0 := by have := NeZero.ne p; omega
    refine Fin.ext ?_
    show ((1 : Int) % (p : Int)).toNat = 1 % p
    refine Int.ofNat.inj ?_
    show (((1 : Int) % (p : Int)).toNat : Int) = ((1 % p : Nat) : Int)
    rw [Int.toNat_of_nonneg (Int.emod_nonneg _ h0), Int.natCast_emod]; rfl
  inj := fun a b => by
    have h0 : (p : Int) ≠ 0 := by have := NeZero.ne p; omega
    have h1 := Int.emod_nonneg a h0
    have h2 := Int.emod_nonneg b h0
    constructor
    · intro h
      have := Fin.mk.inj h
      omega
    · intro h
      refine Fin.ext ?_
      show (a % (p : Int)).toNat = (b % (p : Int)).toNat
      rw [h]
  sur := fun x => ⟨(x.val : Int), by omega, by have := x.isLt; omega, by
    refine Fin.ext ?_
    show (((x.val : Int)) % (p : Int)).toNat = x.val
    have e : ((x.val : Int)) % (p : Int) = x.val := Int.emod_eq_of_lt (by omega) (by have := x.isLt; omega)
    rw [e]; rfl⟩
section
variable {p : Nat} {R : Type} [CommRing R] (h : Hom p R)
namespace Hom
theorem zero : h.ph 0 = 0 := by
  have e := h.add 0 0
  have e' : h.ph (0 + 0) = h.ph 0 := rfl
  rw [e'] at e; grind
theorem neg (a : Int) : h.ph (-a) = - h.ph a := by
  have e := h.add a (-a)
  rw [show a + -a = 0 by omega, h.zero] at e; grind
theorem sub (a b : Int) : h.ph (a - b) = h.ph a - h.ph b := by
  rw [Int.sub_eq_add_neg, h.add, h.neg]; grind
theorem mod (a : Int) : h.ph (a % (p : Int)) = h.ph a := (h.inj _ _).mpr (Int.emod_emod_of_dvd _ (Int.dvd_refl _))
theorem pow (a : Int) (n : Nat) : h.ph (a ^ n) = h.ph a ^ n := by
  induction n with
  | zero => rw [Int.pow_zero, pw_zero, h.one]
  | succ n ih => rw [Int.pow_succ, h.mul, ih, pw_succ]
theorem S (f : Nat → Int) (n : Nat) : h.ph (Spm.S f n) = Spm.S (fun i => h.ph (f i)) n := by
  induction n with
  | zero => exact h.zero
  | succ n ih => rw [S_succ, h.add, ih]; rfl
theorem N (n : Nat) : h.ph (n : Int) = Spm.N R n := by
  induction n with
  | zero => exact h.zero
  | succ n ih => rw [show ((n + 1 : Nat) : Int) = (n : Int) + 1 from rfl, h.add, ih, h.one, N_succ]
theorem eq {a b : Int} (ha : 0 ≤ a ∧ a < p) (hb : 0 ≤ b ∧ b < p) (e : h.ph a = h.ph b) : a = b := by
  have q := (h.inj _ _).mp e
  rwa [Int.emod_eq_of_lt ha.1 ha.2, Int.emod_eq_of_lt hb.1 hb.2] at q
theorem ne0 {a : Int} (ha : 0 ≤ a ∧ a < p) : h.ph a = 0 ↔ a = 0 := by
  constructor
  · intro e
    rw [← h.zero] at e
    exact h.eq ha ⟨Int.le_refl _, by omega⟩ e
  · intro e; rw [e, h.zero]
theorem is1 (hp : 2 ≤ p) (a : Int) : h.ph a = 1 ↔ a % (p : Int) = 1 := by
  rw [← h.one, h.inj, Int.emod_eq_of_lt (show (0 : Int) ≤ 1 by omega) (by omega)]
end Hom
/-- Fermat, over the whole numbers -/
theorem Good.flI {p : Nat} (G : Good p) {a : Int} (h0 : 0 < a) (h1 : a < p) : a ^ (p - 1) % (p : Int) = 1 := by
  have e := G.fl a.toNat (by omega) (by omega)
  have q : ((a.toNat ^ (p - 1) % p : Nat) : Int) = ((1 : Nat) : Int) := by rw [e]
  rw [Int.natCast_emod, Int.natCast_pow, Int.toNat_of_nonneg (by omega)] at q
  exact q
theorem Good.flR {p : Nat} {R : Type} [CommRing R] (G : Good p) (h : Hom p R) (x : R) (hx : x ≠ 0) : x ^ (p - 1) = 1 := by
  obtain ⟨a, a0, a1, rfl⟩ := h.sur x
  have : a ≠ 0 := fun e => hx (by rw [e, h.zero])
  rw [← h.pow, h.is1 G.two]
  exact G.flI (by omega) a1
theorem Good.invR {p : Nat} {R : Type} [CommRing R] (G : Good p) (h : Hom p R) (x : R) (hx : x ≠ 0) : x * x ^ (p - 2) = 1 := by
  have e := G.flR h x hx
  have : p - 1 = (p - 2) + 1 := by have := G.two; omega
  rw [this, pw_succ] at e; grind
theorem Good.dom {p : Nat} {R : Type} [CommRing R] (G : Good p) (h : Hom p R) : Dom R := fun a b e => by
  by_cases ha : a = 0
  · exact .inl ha
  · right
    have q := G.invR h a ha
    have : b = (a * a ^ (p - 2)) * b := by rw [q]; grind
    grind
end
/-! ### orders -/
/-- n is the order of a by p -/
structure Ord (p : Nat) (a : Int) (n : Nat) : Prop where
  pos : 0 < n
  one : a ^ n % (p : Int) = 1
  low : ∀ k : Nat, 0 < k → k < n → a ^ k % (p : Int) ≠ 1
theorem Ord.uniq {p : Nat} {a : Int} {n m : Nat} (h : Ord p a n) (k : Ord p a m) : n = m := by
  rcases Nat.lt_trichotomy n m with q | q | q
  · exact absurd h.one (k.low n h.pos q)
  · exact q
  · exact absurd k.one (h.low m k.pos q)
theorem Ord.root {p : Nat} {R : Type} [CommRing R] (h : Hom p R) (hp : 2 ≤ p) {a : Int} {n : Nat} (o : Ord p a n) : Root (h.ph a) n :=
  ⟨o.pos, by rw [← h.pow, h.is1 hp]; exact o.one, fun k k0 kn => by
    rw [← h.pow, ne_eq, h.is1 hp]
    exact o.low k k0 kn⟩
theorem Ord.of_root {p : Nat} {R : Type} [CommRing R] (h : Hom p R) (hp : 2 ≤ p) {a : Int} {n : Nat} (o : Root (h.ph a) n) : Ord p a n :=
  ⟨o.pos, by rw [← h.is1 hp, h.pow]; exact o.one, fun k k0 kn => by
    rw [ne_eq, ← h.is1 hp, h.pow]
    exact o.low k k0 kn⟩
theorem Ord.mod {p : Nat} (hp : 2 ≤ p) {a : Int} {n : Nat} (o : Ord p (a % (p : Int)) n) : Ord p a n := by
  haveI : NeZero p := ⟨by omega⟩
  refine .of_root (fhom p) hp ?_
  have q := o.root (fhom p) hp
  rwa [(fhom p).mod] at q
/-- each rest above 0 has an order that goes into the prime less one: here, that it has one, to it -/
theorem Good.has_ord {p : Nat} (G : Good p) {a : Int} (h0 : 0 < a) (h1 : a < p) : ∃ n, n ≤ p - 1 ∧ Ord p a n := by
  have e := G.flI h0 h1
  have hp := G.two
  have step : ∀ m : Nat, m ≤ p - 1 → (∃ n, n ≤ m ∧ Ord p a n) ∨ ∀ k : Nat, 0 < k → k ≤ m → a ^ k % (p : Int) ≠ 1 := by
    intro m
    induction m with
    | zero => intro _; right; intro k a b; omega
    | succ m ih =>
      intro hm
      rcases ih (by omega) with ⟨n, a, b⟩ | q
      · exact .inl ⟨n, by omega, b⟩
      · by_cases z : a ^ (m + 1) % (p : Int) = 1
        · exact .inl ⟨m + 1, Nat.le_refl _, by omega, z, fun k k0 kn => q k k0 (by omega)⟩
        · right
          intro k k0 kn
          by_cases e : k = m + 1
          · subst e; exact z
          · exact q k k0 (by omega)
  rcases step (p - 1) (Nat.le_refl _) with q | q
  · exact q
  · exact absurd e (q (p - 1) (by omega) (Nat.le_refl _))
theorem Good.ord_dvd {p : Nat} (G : Good p) {a : Int} (h0 : 0 < a) (h1 : a < p) {n : Nat} (o : Ord p a n) : (p - 1) % n = 0 := by
  haveI : NeZero p := ⟨by have := G.two; omega⟩
  have r := o.root (fhom p) G.two
  refine (r.eq1 (p - 1)).mp ?_
  rw [← (fhom p).pow, (fhom p).is1 G.two]
  exact G.flI h0 h1
/-- a root of each size that goes into the prime less one -/
theorem Good.has_root {p : Nat} (G : Good p) : ∃ g : Int, 0 < g ∧ g < p ∧ ∀ s m : Nat, s * m = p - 1 → Ord p (g ^ m % (p : Int)) s := by
  obtain ⟨g, g0, g1, gk⟩ := G.gen
  have hp := G.two
  haveI : NeZero p := ⟨by omega⟩
  refine ⟨(g : Int), by omega, by omega, fun s m e => ?_⟩
  have hs : 0 < s := by
    rcases Nat.eq_zero_or_pos s with q | q
    · subst q; omega
    · exact q
  have hm : 0 < m := by
    rcases Nat.eq_zero_or_pos m with q | q
    · subst q; omega
    · exact q
  refine .of_root (fhom p) hp ?_
  rw [(fhom p).mod, (fhom p).pow]
  refine ⟨hs, ?_, fun k k0 ks => ?_⟩
  · rw [← pw_mul, Nat.mul_comm, e, ← (fhom p).pow, (fhom p).is1 hp]
    exact G.flI (by omega) (by omega)
  · rw [← pw_mul, ← (fhom p).pow, ne_eq, (fhom p).is1 hp]
    have lt : m * k < p - 1 := by
      rw [← e, Nat.mul_comm]
      exact Nat.mul_lt_mul_of_pos_right ks hm
    have q := gk (m * k) (Nat.mul_pos hm k0) lt
    intro z
    apply q
    refine Int.ofNat.inj ?_
    show ((g ^ (m * k) % p : Nat) : Int) = ((1 : Nat) : Int)
    rw [Int.natCast_emod, Int.natCast_pow]; exact z
end Spm

namespace Spm
open Lean.Grind
/-! What the program's defs reckon, over the whole numbers. -/
/-- the worth of a row at x by p -/
def hor (p : Nat) (row : List Int) (x : Int) : Int := row.foldr (fun c a => (a * x + c) % (p : Int)) 0
theorem hor_cons (p : Nat) (c : Int) (row : List Int) (x : Int) : hor p (c :: row) x = (hor p row x * x + c) % (p : Int) := rfl
theorem hor_nil (p : Nat) (x : Int) : hor p [] x = 0 := rfl
theorem hor_bd {p : Nat} (hp : 0 < p) (row : List Int) (x : Int) : 0 ≤ hor p row x ∧ hor p row x < p := by
  cases row with
  | nil => exact ⟨Int.le_refl _, by show (0 : Int) < p; omega⟩
  | cons c row =>
    rw [hor_cons]
    exact ⟨Int.emod_nonneg _ (by omega), Int.emod_lt_of_pos _ (by omega)⟩
theorem hor_drop {p : Nat} {row : List Int} {x z : Int} {i : Nat} (hi : i < row.length) (h : row[row.length - 1 - i]? = some z) :
    hor p (row.drop (row.length - (i + 1))) x = (hor p (row.drop (row.length - i)) x * x + z) % (p : Int) := by
  have e1 : row.length - (i + 1) = row.length - 1 - i := by omega
  have e2 : row.length - i = row.length - 1 - i + 1 := by omega
  rw [e1, e2]
  obtain ⟨hl, e⟩ := List.getElem?_eq_some_iff.mp h
  rw [List.drop_eq_getElem_cons hl, e, hor_cons]
theorem hor_ph {p : Nat} {R : Type} [CommRing R] (h : Hom p R) (x : Int) : ∀ row : List Int, h.ph (hor p row x) = ev (row.map h.ph) (h.ph x)
  | [] => h.zero
  | c :: row => by
    rw [hor_cons, h.mod, h.add, h.mul, hor_ph h x row]
    show ev (row.map h.ph) (h.ph x) * h.ph x + h.ph c = h.ph c + h.ph x * ev (row.map h.ph) (h.ph x)
    grind
/-- a number's power by p -/
def pwm (p : Nat) (a : Int) (n : Nat) : Int := a ^ n % (p : Int)
theorem pwm_bd {p : Nat} (hp : 0 < p) (a : Int) (n : Nat) : 0 ≤ pwm p a n ∧ pwm p a n < p :=
  ⟨Int.emod_nonneg _ (by omega), Int.emod_lt_of_pos _ (by omega)⟩
theorem pwm_ph {p : Nat} {R : Type} [CommRing R] (h : Hom p R) (a : Int) (n : Nat) : h.ph (pwm p a n) = h.ph a ^ n := by
  unfold pwm
  rw [h.mod, h.pow]
theorem nz {p : Nat} (hp : 0 < p) : NeZero p := ⟨by omega⟩
/-- one turn of the quick power: an odd number of times -/
theorem quick_odd {p : Nat} (hp : 0 < p) {f b e : Int} {q n : Nat} {a : Int} (hq : e.toNat = 2 * q + 1) (h : (f * b ^ e.toNat) % (p : Int) = a ^ n % (p : Int)) :
    ((f * b % (p : Int)) * (b * b % (p : Int)) ^ q) % (p : Int) = a ^ n % (p : Int) := by
  haveI := nz hp
  rw [← h]
  refine ((fhom p).inj _ _).mp ?_
  rw [(fhom p).mul, (fhom p).mod, (fhom p).mul, (fhom p).pow, (fhom p).mod, (fhom p).mul, (fhom p).mul, (fhom p).pow, hq, pw_succ, Nat.mul_comm, pw_mul, pw_mulb, ← pw_mul, Nat.mul_comm q 2, pw_mul]
  have e2 : (fhom p).ph b ^ 2 = (fhom p).ph b * (fhom p).ph b := by rw [show (2 : Nat) = 1 + 1 from rfl, pw_succ, show (1 : Nat) = 0 + 1 from rfl, pw_succ, pw_zero]; grind
  rw [← pw_mulb, ← e2]
  grind
theorem quick_even {p : Nat} (hp : 0 < p) {f b e : Int} {q n : Nat} {a : Int} (hq : e.toNat = 2 * q) (h : (f * b ^ e.toNat) % (p : Int) = a ^ n % (p : Int)) :
    (f * (b * b % (p : Int)) ^ q) % (p : Int) = a ^ n % (p : Int) := by
  haveI := nz hp
  rw [← h]
  refine ((fhom p).inj _ _).mp ?_
  rw [(fhom p).mul, (fhom p).pow, (fhom p).mod, (fhom p).mul, (fhom p).mul, (fhom p).pow, hq, pw_mul]
  have e2 : (fhom p).ph b ^ 2 = (fhom p).ph b * (fhom p).ph b := by rw [show (2 : Nat) = 1 + 1 from rfl, pw_succ, show (1 : Nat) = 0 + 1 from rfl, pw_succ, pw_zero]; grind
  rw [e2]
/-- one factor more -/
theorem pwm_succ {p : Nat} (a : Int) (n : Nat) : pwm p a (n + 1) = pwm p a n * a % (p : Int) := by
  unfold pwm
  rw [Int.pow_succ, Int.mul_emod, Int.mul_emod (a ^ n % (p : Int)) a, Int.emod_emod_of_dvd _ (Int.dvd_refl _)]
/-- the inverse by p -/
def inv (p : Nat) (a : Int) : Int := pwm p a (p - 2)
/-- the numbers of a row's transform: its worths at the root's powers -/
def spn (p : Nat) (root : Int) (row : List Int) : List Int := (List.range row.length).map fun k => hor p row (pwm p root k)
end Spm

namespace Spm
open Lean.Grind
/-! Plain and ring products as lists of whole numbers, reckoned place by place. -/
/-- the number at a place -/
def at0 (l : List Int) (i : Nat) : Int := l.getD i 0
theorem at0_of {l : List Int} {i : Nat} {z : Int} (h : l[i]? = some z) : at0 l i = z := by
  unfold at0
  rw [List.getD_eq_getElem?_getD, h]
  rfl
theorem at0_get {l : List Int} {i : Nat} (h : i < l.length) : l[i]? = some (at0 l i) := by
  rw [List.getElem?_eq_getElem h]
  exact congrArg some (at0_of (List.getElem?_eq_getElem h)).symm
theorem at0_map {f : Nat → Int} {n i : Nat} (h : i < n) : at0 ((List.range n).map f) i = f i := by
  refine at0_of ?_
  rw [List.getElem?_map, List.getElem?_range h]
  rfl
/-- the sum of the products that were added at place k when rows 0 .. i - 1 are done and of row i the places below j -/
def part (A B : List Int) (i j k : Nat) : Int :=
  S (fun i' => S (fun j' => if i' + j' = k then at0 A i' * at0 B j' else 0) B.length) i + S (fun j' => if i + j' = k then at0 A i * at0 B j' else 0) j
def partL (p : Nat) (A B : List Int) (i j : Nat) : List Int := (List.range (A.length + B.length - 1)).map fun k => part A B i j k % (p : Int)
/-- the plain product -/
def mulL (p : Nat) (A B : List Int) : List Int := (List.range (A.length + B.length - 1)).map fun k => P A.length B.length (at0 A) (at0 B) k % (p : Int)
theorem partL_len (p : Nat) (A B : List Int) (i j : Nat) : (partL p A B i j).length = A.length + B.length - 1 := by
  unfold partL
  rw [List.length_map, List.length_range]
theorem mulL_len (p : Nat) (A B : List Int) : (mulL p A B).length = A.length + B.length - 1 := by
  unfold mulL
  rw [List.length_map, List.length_range]
theorem ext0 {l m : List Int} {n : Nat} (h1 : l.length = n) (h2 : m.length = n) (h : ∀ i, i < n → at0 l i = at0 m i) : l = m := by
  refine List.ext_getElem (h1.trans h2.symm) fun i a b => ?_
  have e := h i (by omega)
  rw [at0_of (List.getElem?_eq_getElem a), at0_of (List.getElem?_eq_getElem b)] at e
  exact e
theorem int_add0 (a : Int) : a + (0 : Int) = a := Int.add_zero a
theorem partL_start (p : Nat) (A B : List Int) : partL p A B 0 0 = List.replicate (A.length + B.length - 1) 0 := by
  refine ext0 (partL_len ..) (List.length_replicate ..) fun i hi => ?_
  unfold partL
  rw [at0_map hi]
  have e : at0 (List.replicate (A.length + B.length - 1) (0 : Int)) i = 0 := at0_of (by rw [List.getElem?_replicate, if_pos hi])
  rw [e]
  show ((0 : Int) + 0) % (p : Int) = 0
  simp
theorem partL_row (p : Nat) (A B : List Int) (i : Nat) : partL p A B i B.length = partL p A B (i + 1) 0 := by
  unfold partL
  refine List.map_congr_left fun k _ => ?_
  congr 1
  unfold part
  rw [S_succ, S_zero]
  exact (int_add0 _).symm
theorem partL_end (p : Nat) (A B : List Int) : partL p A B A.length 0 = mulL p A B := by
  unfold partL mulL
  refine List.map_congr_left fun k _ => ?_
  congr 1
  unfold part P
  rw [S_zero]
  exact int_add0 _
theorem part_step (A B : List Int) (i j k : Nat) : part A B i (j + 1) k = part A B i j k + (if i + j = k then at0 A i * at0 B j else 0) := by
  unfold part
  rw [S_succ]
  exact (Int.add_assoc _ _ _).symm
theorem partL_step (p : Nat) (A B : List Int) {i j : Nat} (hi : i < A.length) (hj : j < B.length) :
    (partL p A B i j).set (i + j) ((at0 (partL p A B i j) (i + j) + at0 A i * at0 B j) % (p : Int)) = partL p A B i (j + 1) := by
  have hb : i + j < A.length + B.length - 1 := by omega
  refine ext0 (by rw [List.length_set, partL_len]) (partL_len ..) fun k hk => ?_
  have e2 : at0 (partL p A B i (j + 1)) k = part A B i (j + 1) k % (p : Int) := by unfold partL; rw [at0_map hk]
  have e1 : at0 (partL p A B i j) k = part A B i j k % (p : Int) := by unfold partL; rw [at0_map hk]
  rw [e2, part_step]
  by_cases c : i + j = k
  · rw [if_pos c]
    rw [c] at hb ⊢
    rw [at0_of (by rw [List.getElem?_set_self (by rw [partL_len]; exact hk)]), e1, Int.emod_add_emod]
  · rw [if_neg c, int_add0]
    rw [show at0 ((partL p A B i j).set (i + j) _) k = at0 (partL p A B i j) k by
      unfold at0
      rw [List.getD_eq_getElem?_getD, List.getElem?_set_ne c, ← List.getD_eq_getElem?_getD]]
    exact e1
/-! ### folded to n places -/
def foldL (p n : Nat) (L : List Int) (t : Nat) : List Int := (List.range n).map fun k => S (fun m => if m % n = k then at0 L m else 0) t % (p : Int)
theorem foldL_len (p n : Nat) (L : List Int) (t : Nat) : (foldL p n L t).length = n := by
  unfold foldL
  rw [List.length_map, List.length_range]
theorem foldL_start (p n : Nat) (L : List Int) : foldL p n L 0 = List.replicate n 0 := by
  refine ext0 (foldL_len ..) (List.length_replicate ..) fun i hi => ?_
  unfold foldL
  rw [at0_map hi]
  have e : at0 (List.replicate n (0 : Int)) i = 0 := at0_of (by rw [List.getElem?_replicate, if_pos hi])
  rw [e, S_zero]
  exact Int.zero_emod _
theorem foldL_step (p : Nat) {n t : Nat} (L : List Int) (hn : 0 < n) :
    (foldL p n L t).set (t % n) ((at0 (foldL p n L t) (t % n) + at0 L t) % (p : Int)) = foldL p n L (t + 1) := by
  refine ext0 (by rw [List.length_set, foldL_len]) (foldL_len ..) fun k hk => ?_
  have e2 : at0 (foldL p n L (t + 1)) k = (S (fun m => if m % n = k then at0 L m else 0) t + (if t % n = k then at0 L t else 0)) % (p : Int) := by
    unfold foldL
    rw [at0_map hk]
    rfl
  have e1 : at0 (foldL p n L t) k = S (fun m => if m % n = k then at0 L m else 0) t % (p : Int) := by unfold foldL; rw [at0_map hk]
  rw [e2]
  by_cases c : t % n = k
  · rw [if_pos c, c]
    rw [at0_of (by rw [List.getElem?_set_self (by rw [foldL_len]; exact hk)]), e1, Int.emod_add_emod]
  · rw [if_neg c, int_add0]
    rw [show at0 ((foldL p n L t).set (t % n) _) k = at0 (foldL p n L t) k by
      unfold at0
      rw [List.getD_eq_getElem?_getD, List.getElem?_set_ne c, ← List.getD_eq_getElem?_getD]]
    exact e1
/-- the ring product -/
def ringL (p : Nat) (A B : List Int) : List Int := foldL p A.length (mulL p A B) (mulL p A B).length
theorem ringL_len (p : Nat) (A B : List Int) : (ringL p A B).length = A.length := foldL_len ..
end Spm

namespace Spm
/-! Primes as the program looks at them; the sizes; a root of a size. -/
def tbl : List Int := [2, 3, 5, 7, 11, 13, 17, 19, 23, 29, 31, 37, 41, 61, 97, 193, 257, 337, 577, 997]
/-- no part below 32, as the law looks (whole numbers) -/
def NoPart (f : Int) : Prop := ∀ d : Int, 2 ≤ d → d < 32 → ¬ (d < f ∧ f % d = 0)
theorem sf_of {f : Int} (h2 : 2 ≤ f) (h3 : f ≤ 997) (h : NoPart f) : SF f.toNat := by
  refine ⟨by omega, by omega, fun d d2 d3 dn e => ?_⟩
  refine h (d : Int) (by omega) (by omega) ⟨by omega, ?_⟩
  have q : ((f.toNat % d : Nat) : Int) = ((0 : Nat) : Int) := by rw [e]
  rw [Int.natCast_emod, Int.toNat_of_nonneg (by omega)] at q
  exact q
def npB (f : Int) : Bool := (List.range 32).all fun d => decide (d < 2) || !(decide ((d : Int) < f) && decide (f % (d : Int) = 0))
theorem np_of {f : Int} (h : npB f = true) : NoPart f := by
  intro d d2 d3 ⟨a, b⟩
  have q := List.all_eq_true.mp h d.toNat (List.mem_range.mpr (by omega))
  have e : ((d.toNat : Nat) : Int) = d := Int.toNat_of_nonneg (by omega)
  rw [e] at q
  have c1 : decide (d.toNat < 2) = false := decide_eq_false (by omega)
  rw [c1, decide_eq_true a, decide_eq_true b] at q
  exact absurd q (by decide)
theorem tbl_np : tbl.all (fun f => decide (2 ≤ f) && (decide (f ≤ 997) && npB f)) = true := by decide +kernel
theorem tbl_ok {i : Nat} (h : i < 20) : SF (at0 tbl i).toNat ∧ 2 ≤ at0 tbl i ∧ at0 tbl i ≤ 997 := by
  have m : at0 tbl i ∈ tbl := List.mem_of_getElem? (at0_get (l := tbl) (i := i) h)
  have q := List.all_eq_true.mp tbl_np _ m
  rw [Bool.and_eq_true, Bool.and_eq_true] at q
  have a := of_decide_eq_true q.1
  have b := of_decide_eq_true q.2.1
  exact ⟨sf_of a b (np_of q.2.2), a, b⟩
theorem np997 : NoPart 997 := np_of (by decide +kernel)
/-- as is_prime looks -/
def PrimeP (n : Int) : Prop := 2 ≤ n ∧ n ≤ 997 ∧ ∀ d : Int, 2 ≤ d → d < n → ¬ (d * d ≤ n ∧ n % d = 0)
theorem prime_of_sf {p : Nat} (h : SF p) : PrimeP (p : Int) := by
  obtain ⟨h2, h3, h4⟩ := h
  refine ⟨by omega, by omega, fun d d2 dn ⟨a, b⟩ => ?_⟩
  have d32 : d < 32 := by
    by_cases q : d < 32
    · exact q
    · have : 32 * 32 ≤ d * d := Int.mul_le_mul (by omega) (by omega) (by omega) (by omega)
      omega
  refine h4 d.toNat (by omega) (by omega) (by omega) ?_
  have e : ((d.toNat : Nat) : Int) = d := Int.toNat_of_nonneg (by omega)
  have q : ((p % d.toNat : Nat) : Int) = 0 := by rw [Int.natCast_emod, e]; exact b
  omega
/-- on the way round to a generator -/
def dist (p : Nat) (g one : Int) : Nat := if one ≤ g then (g - one).toNat else (g - one + (p - 1)).toNat
theorem dist_next {p : Nat} {g one : Int} (hp : 2 ≤ p) (g0 : 0 < g) (g1 : g < p) (o0 : 1 ≤ one) (o1 : one < p) (ne : one ≠ g) :
    1 ≤ 1 + one % ((p : Int) - 1) ∧ 1 + one % ((p : Int) - 1) < p ∧ dist p g (1 + one % ((p : Int) - 1)) < dist p g one := by
  by_cases c : one = (p : Int) - 1
  · have e : one % ((p : Int) - 1) = 0 := by rw [c]; exact Int.emod_self
    rw [e]
    unfold dist
    refine ⟨by omega, by omega, ?_⟩
    rw [if_pos (by omega), if_neg (by omega)]
    omega
  · have e : one % ((p : Int) - 1) = one := Int.emod_eq_of_lt (by omega) (by omega)
    rw [e]
    unfold dist
    refine ⟨by omega, by omega, ?_⟩
    by_cases q : one ≤ g
    · rw [if_pos (by omega), if_pos q]; omega
    · rw [if_neg (by omega), if_neg q]; omega
/-- a power of a rest above 0 is above 0 -/
theorem pwm_pos {p : Nat} (G : Good p) {a : Int} (h0 : 0 < a) (h1 : a < p) (n : Nat) : 1 ≤ pwm p a n ∧ pwm p a n < p := by
  obtain ⟨b0, b1⟩ := pwm_bd (p := p) (by have := G.two; omega) a n
  refine ⟨?_, b1⟩
  by_cases c : pwm p a n = 0
  · exfalso
    haveI : NeZero p := ⟨by have := G.two; omega⟩
    have D := G.dom (fhom p)
    have e : (fhom p).ph a ^ n = 0 := by rw [← pwm_ph, c, (fhom p).zero]
    have z : ∀ m : Nat, (fhom p).ph a ^ m ≠ 0 := fun m => by
      induction m with
      | zero =>
        rw [pw_zero, ← (fhom p).one]
        intro q
        have := ((fhom p).ne0 ⟨by omega, by have := G.two; omega⟩).mp q
        omega
      | succ m ih =>
        rw [pw_succ]
        intro q
        rcases D _ _ q with r | r
        · exact ih r
        · have := ((fhom p).ne0 ⟨by omega, h1⟩).mp r
          omega
    exact z n e
  · omega
end Spm

namespace Spm
/-! Law 1: powers by the rest by the prime less one; the inverse. -/
theorem pwm_zero {p : Nat} (hp : 2 ≤ p) (x : Int) : pwm p x 0 = 1 := by
  show x ^ 0 % (p : Int) = 1
  rw [Int.pow_zero]
  exact Int.emod_eq_of_lt (by omega) (by omega)
theorem pwm_0 {p : Nat} {n : Nat} (hn : 0 < n) : pwm p 0 n = 0 := by
  show (0 : Int) ^ n % (p : Int) = 0
  rw [Int.zero_pow (by omega), Int.zero_emod]
theorem pwm_fermat {p : Nat} (G : Good p) {x : Int} (h0 : 0 < x) (h1 : x < p) (n : Nat) : pwm p x (n % (p - 1)) = pwm p x n := by
  haveI : NeZero p := ⟨by have := G.two; omega⟩
  have hp : 0 < p := by have := G.two; omega
  refine (fhom p).eq (pwm_bd hp _ _) (pwm_bd hp _ _) ?_
  rw [pwm_ph, pwm_ph]
  refine pw_mod (G.flR (fhom p) _ fun z => ?_) n
  have := ((fhom p).ne0 ⟨by omega, h1⟩).mp z
  omega
theorem inv_mul {p : Nat} (G : Good p) {x : Int} (h0 : 0 < x) (h1 : x < p) : inv p x * x % (p : Int) = 1 := by
  haveI : NeZero p := ⟨by have := G.two; omega⟩
  rw [← (fhom p).is1 G.two, (fhom p).mul]
  unfold inv
  rw [pwm_ph]
  have e := G.invR (fhom p) ((fhom p).ph x) (fun z => by
    have := ((fhom p).ne0 ⟨by omega, h1⟩).mp z
    omega)
  grind
theorem toNat_mod {e : Int} {p : Nat} (he : 0 ≤ e) (hp : 2 ≤ p) : (e % ((p : Int) - 1)).toNat = e.toNat % (p - 1) := by
  have h : ((e.toNat % (p - 1) : Nat) : Int) = e % ((p : Int) - 1) := by
    rw [Int.natCast_emod, Int.toNat_of_nonneg he, show ((p - 1 : Nat) : Int) = (p : Int) - 1 by omega]
  rw [← h, Int.toNat_natCast]
end Spm

namespace Spm
open Lean.Grind
/-! Rows turned: the lists as the transform over the rests. -/
theorem sum_S (f : Nat → Int) : ∀ n, ((List.range n).map f).sum = S f n
  | 0 => rfl
  | n + 1 => by
    rw [List.range_succ, List.map_append, List.sum_append, sum_S f n, S_succ]
    show _ + ((f n) + 0) = _
    rw [Int.add_zero]
theorem sum_at0 : ∀ l : List Int, l.sum = S (at0 l) l.length := fun l => by
  have e : l = (List.range l.length).map (at0 l) := ext0 rfl (by rw [List.length_map, List.length_range]) fun i hi => (at0_map hi).symm
  rw [← sum_S, ← e]
section
variable {p : Nat} {R : Type} [CommRing R] (h : Hom p R)
theorem map_getD (row : List Int) (j : Nat) : (row.map h.ph).getD j 0 = h.ph (at0 row j) := by
  unfold at0
  rw [List.getD_eq_getElem?_getD, List.getD_eq_getElem?_getD, List.getElem?_map]
  cases row[j]? with
  | none => exact h.zero.symm
  | some z => rfl
theorem hor_S (row : List Int) (x : Int) : h.ph (hor p row x) = S (fun j => h.ph (at0 row j) * h.ph x ^ j) row.length := by
  rw [hor_ph, ev_S, List.length_map]
  exact S_congr fun j _ => by rw [map_getD]
/-- the numbers of a row among the rests -/
def phr (row : List Int) (j : Nat) : R := h.ph (at0 row j)
theorem spn_len (p : Nat) (x : Int) (row : List Int) : (spn p x row).length = row.length := by
  unfold spn
  rw [List.length_map, List.length_range]
theorem spn_at {x : Int} {row : List Int} {k : Nat} (hk : k < row.length) : at0 (spn p x row) k = hor p row (pwm p x k) := by
  unfold spn
  rw [at0_map hk]
theorem spn_ph {x : Int} {row : List Int} {k : Nat} (hk : k < row.length) : phr h (spn p x row) k = F (h.ph x) row.length (phr h row) k := by
  unfold phr
  rw [spn_at hk, hor_S]
  refine S_congr fun j _ => ?_
  rw [pwm_ph, ← pw_mul, Nat.mul_comm k j]
theorem spn_bd (hp : 0 < p) {x : Int} {row : List Int} : ∀ z ∈ spn p x row, 0 ≤ z ∧ z < p := by
  intro z hz
  unfold spn at hz
  obtain ⟨k, _, e⟩ := List.mem_map.mp hz
  rw [← e]
  exact hor_bd hp _ _
end
/-- lists of rests with the same numbers among the rests are one -/
theorem rests_ext {p : Nat} {R : Type} [CommRing R] (h : Hom p R) {l m : List Int} {n : Nat} (h1 : l.length = n) (h2 : m.length = n) (b1 : ∀ z ∈ l, 0 ≤ z ∧ z < p) (b2 : ∀ z ∈ m, 0 ≤ z ∧ z < p)
    (e : ∀ i, i < n → phr h l i = phr h m i) : l = m := by
  refine ext0 h1 h2 fun i hi => ?_
  refine h.eq (b1 _ (List.mem_of_getElem? (at0_get (by omega)))) (b2 _ (List.mem_of_getElem? (at0_get (by omega)))) (e i hi)
/-- as the law turns: by the root's powers, their places taken by the length -/
def lawT (p : Nat) (x : Int) (row : List Int) : List Int :=
  (List.range row.length).map fun k => ((List.range row.length).map fun j => at0 row j * pwm p x (j * k % row.length)).sum % (p : Int)
theorem lawT_eq {p : Nat} (hp : 2 ≤ p) {x : Int} {row : List Int} (o : Ord p x row.length) : lawT p x row = spn p x row := by
  haveI : NeZero p := ⟨by omega⟩
  have r := o.root (fhom p) hp
  refine rests_ext (fhom p) (n := row.length) (by unfold lawT; rw [List.length_map, List.length_range]) (spn_len ..) ?_ (spn_bd (by omega)) fun k hk => ?_
  · intro z hz
    unfold lawT at hz
    obtain ⟨k, _, e⟩ := List.mem_map.mp hz
    rw [← e]
    exact ⟨Int.emod_nonneg _ (by omega), Int.emod_lt_of_pos _ (by omega)⟩
  · rw [spn_ph _ hk]
    unfold phr lawT
    rw [at0_map hk, (fhom p).mod, sum_S, (fhom p).S]
    refine S_congr fun j _ => ?_
    rw [(fhom p).mul, pwm_ph, pw_mod r.one]
end Spm

namespace Spm
open Lean.Grind
/-! Law 13: sums of products. -/
theorem emod_bd {p : Nat} (hp : 0 < p) (a : Int) : 0 ≤ a % (p : Int) ∧ a % (p : Int) < p := ⟨Int.emod_nonneg _ (by omega), Int.emod_lt_of_pos _ (by omega)⟩
theorem first_sum {p : Nat} (hp : 2 ≤ p) {x : Int} {A : List Int} (hn : 0 < A.length) : at0 (spn p x A) 0 = A.sum % (p : Int) := by
  haveI : NeZero p := ⟨by omega⟩
  refine (fhom p).eq (spn_bd (by omega) _ (List.mem_of_getElem? (at0_get (by rw [spn_len]; exact hn)))) (emod_bd (by omega) _) ?_
  have e := spn_ph (fhom p) (x := x) (row := A) hn
  unfold phr at e
  rw [e, (fhom p).mod, sum_at0, (fhom p).S]
  refine S_congr fun j _ => ?_
  rw [Nat.mul_zero, pw_zero]
  exact Semiring.mul_one _
theorem sum_first {p : Nat} (G : Good p) {x : Int} {A : List Int} (o : Ord p x A.length) : (spn p x A).sum % (p : Int) = (A.length : Int) * at0 A 0 % (p : Int) := by
  have hp := G.two
  haveI : NeZero p := ⟨by omega⟩
  have r := o.root (fhom p) hp
  rw [← (fhom p).inj, sum_at0, (fhom p).S, spn_len, (fhom p).mul, (fhom p).N]
  have e := F_F (G.dom (fhom p)) r (phr (fhom p) A) 0 o.pos
  rw [Nat.sub_zero, Nat.mod_self] at e
  unfold phr at e
  rw [← e]
  unfold F
  refine S_congr fun k hk => ?_
  rw [Nat.mul_zero, pw_zero]
  have q := spn_ph (fhom p) (x := x) (row := A) hk
  unfold phr F at q
  rw [q]
  exact (Semiring.mul_one _).symm
theorem law13 {p : Nat} (G : Good p) {x : Int} {A B : List Int} (hB : B.length = A.length) (o : Ord p x A.length) :
    ((List.range A.length).map fun k => at0 (spn p x A) k * at0 (spn p x B) k).sum % (p : Int) = (A.length : Int) * ((List.range A.length).map fun k => at0 A k * at0 B ((A.length - k) % A.length)).sum % (p : Int) := by
  have hp := G.two
  haveI : NeZero p := ⟨by omega⟩
  have r := o.root (fhom p) hp
  rw [← (fhom p).inj, sum_S, sum_S, (fhom p).S, (fhom p).mul, (fhom p).S, (fhom p).N]
  have e := parseval (G.dom (fhom p)) r (phr (fhom p) A) (phr (fhom p) B)
  have e1 : S (fun i => (fhom p).ph (at0 (spn p x A) i * at0 (spn p x B) i)) A.length = S (fun k => F ((fhom p).ph x) A.length (phr (fhom p) A) k * F ((fhom p).ph x) A.length (phr (fhom p) B) k) A.length := S_congr fun k hk => by
    have q1 := spn_ph (fhom p) (x := x) (row := A) hk
    have q2 := spn_ph (fhom p) (x := x) (row := B) (k := k) (by omega)
    rw [hB] at q2
    rw [(fhom p).mul, ← q1, ← q2]
    rfl
  rw [e1, e]
  congr 1
  refine S_congr fun k _ => ?_
  rw [(fhom p).mul]
  rfl
end Spm

namespace Spm
open Lean.Grind
/-! Law 8: shifts and contrary rows. -/
/-- moved round by one -/
def moved (A : List Int) : List Int := A.drop (A.length - 1) ++ A.take (A.length - 1)
theorem moved_len (A : List Int) : (moved A).length = A.length := by
  unfold moved
  rw [List.length_append, List.length_drop, List.length_take]
  omega
theorem moved_0 {A : List Int} (h : 0 < A.length) : at0 (moved A) 0 = at0 A (A.length - 1) := by
  refine at0_of ?_
  unfold moved
  rw [List.getElem?_append_left (by rw [List.length_drop]; omega), List.getElem?_drop]
  exact at0_get (by omega)
theorem moved_succ {A : List Int} {i : Nat} (h : i + 1 < A.length) : at0 (moved A) (i + 1) = at0 A i := by
  refine at0_of ?_
  unfold moved
  have e : (A.drop (A.length - 1)).length = 1 := by rw [List.length_drop]; omega
  rw [List.getElem?_append_right (by rw [e]; omega), e, Nat.add_sub_cancel, List.getElem?_take, if_pos (by omega)]
  exact at0_get (by omega)
theorem law8_moved {p : Nat} (G : Good p) {x : Int} {A : List Int} (o : Ord p x A.length) :
    spn p x (moved A) = (List.range A.length).map fun k => at0 (spn p x A) k * pwm p x k % (p : Int) := by
  have hp := G.two
  haveI : NeZero p := ⟨by omega⟩
  have r := o.root (fhom p) hp
  have hn := o.pos
  refine rests_ext (fhom p) (n := A.length) (by rw [spn_len, moved_len]) (by rw [List.length_map, List.length_range]) (spn_bd (by omega)) ?_ fun k hk => ?_
  · intro z hz
    obtain ⟨k, _, e⟩ := List.mem_map.mp hz
    rw [← e]
    exact emod_bd (by omega) _
  · have q1 := spn_ph (fhom p) (x := x) (row := moved A) (k := k) (by rw [moved_len]; exact hk)
    rw [q1, moved_len]
    unfold phr
    rw [at0_map hk, (fhom p).mod, (fhom p).mul, pwm_ph]
    have q2 := spn_ph (fhom p) (x := x) (row := A) hk
    unfold phr at q2
    rw [q2]
    unfold F
    obtain ⟨m, em⟩ : ∃ m, A.length = m + 1 := ⟨A.length - 1, by omega⟩
    have e1 : S (fun j => (fhom p).ph (at0 (moved A) j) * (fhom p).ph x ^ (j * k)) A.length = (fhom p).ph (at0 A m) + S (fun j => (fhom p).ph (at0 A j) * (fhom p).ph x ^ (j * k) * (fhom p).ph x ^ k) m := by
      rw [em, S_left, moved_0 hn, Nat.zero_mul, pw_zero, show A.length - 1 = m by omega]
      have e2 : S (fun i => (fhom p).ph (at0 (moved A) (i + 1)) * (fhom p).ph x ^ ((i + 1) * k)) m = S (fun j => (fhom p).ph (at0 A j) * (fhom p).ph x ^ (j * k) * (fhom p).ph x ^ k) m := S_congr fun i hi => by
        rw [moved_succ (by omega), Nat.add_mul, Nat.one_mul, pw_add]
        exact (Semiring.mul_assoc _ _ _).symm
      rw [e2]
      grind
    rw [e1, em, S_succ, S_mul_r]
    have e3 : (fhom p).ph x ^ (m * k) * (fhom p).ph x ^ k = 1 := by
      rw [← pw_add, show m * k + k = (m + 1) * k by rw [Nat.add_mul, Nat.one_mul], ← em, pw_mul, r.one, pw_one]
    grind
theorem law8_back {p : Nat} (G : Good p) {x : Int} {A : List Int} (o : Ord p x A.length) :
    spn p (pwm p x (A.length - 1)) A = (List.range A.length).map fun k => at0 (spn p x A) ((A.length - k) % A.length) := by
  have hp := G.two
  haveI : NeZero p := ⟨by omega⟩
  have r := o.root (fhom p) hp
  have hn := o.pos
  refine rests_ext (fhom p) (n := A.length) (spn_len ..) (by rw [List.length_map, List.length_range]) (spn_bd (by omega)) ?_ fun k hk => ?_
  · intro z hz
    obtain ⟨k, _, e⟩ := List.mem_map.mp hz
    rw [← e]
    exact spn_bd (by omega) _ (List.mem_of_getElem? (at0_get (by rw [spn_len]; exact Nat.mod_lt _ hn)))
  · rw [spn_ph _ hk]
    unfold phr
    rw [at0_map hk]
    have q2 := spn_ph (fhom p) (x := x) (row := A) (k := (A.length - k) % A.length) (Nat.mod_lt _ hn)
    unfold phr at q2
    rw [q2, pwm_ph]
    refine F_inv r ?_ _ k hk
    have e : (fhom p).ph x * (fhom p).ph x ^ (A.length - 1) = (fhom p).ph x ^ A.length := by
      have e2 : A.length = (A.length - 1) + 1 := by omega
      rw [show (fhom p).ph x ^ A.length = (fhom p).ph x ^ ((A.length - 1) + 1) by rw [← e2], pw_succ]
      grind
    rw [e, r.one]
/-- the order of the root's inverse -/
theorem ord_back {p : Nat} (G : Good p) {x : Int} {n : Nat} (o : Ord p x n) : Ord p (pwm p x (n - 1)) n := by
  have hp := G.two
  haveI : NeZero p := ⟨by omega⟩
  have r := o.root (fhom p) hp
  have hn := o.pos
  refine .of_root (fhom p) hp ?_
  refine r.inv ?_
  rw [pwm_ph]
  have e : (fhom p).ph x * (fhom p).ph x ^ (n - 1) = (fhom p).ph x ^ n := by
    have e2 : n = (n - 1) + 1 := by omega
    rw [show (fhom p).ph x ^ n = (fhom p).ph x ^ ((n - 1) + 1) by rw [← e2], pw_succ]
    grind
  rw [e, r.one]
theorem law8_twice {p : Nat} (G : Good p) {x : Int} {A : List Int} (o : Ord p x A.length) :
    spn p x (spn p x A) = (List.range A.length).map fun k => (A.length : Int) * at0 A ((A.length - k) % A.length) % (p : Int) := by
  have hp := G.two
  haveI : NeZero p := ⟨by omega⟩
  have r := o.root (fhom p) hp
  have hn := o.pos
  refine rests_ext (fhom p) (n := A.length) (by rw [spn_len, spn_len]) (by rw [List.length_map, List.length_range]) (spn_bd (by omega)) ?_ fun k hk => ?_
  · intro z hz
    obtain ⟨k, _, e⟩ := List.mem_map.mp hz
    rw [← e]
    exact emod_bd (by omega) _
  · rw [spn_ph _ (by rw [spn_len]; exact hk), spn_len]
    rw [F_congr (g := F ((fhom p).ph x) A.length (phr (fhom p) A)) (fun i hi => spn_ph _ hi), F_F (G.dom (fhom p)) r _ k hk]
    unfold phr
    rw [at0_map hk, (fhom p).mod, (fhom p).mul, (fhom p).N]
/-- 1 at place 0 alone -/
def unit (n : Nat) : List Int := 1 :: List.replicate (n - 1) 0
theorem unit_len {n : Nat} (h : 0 < n) : (unit n).length = n := by
  unfold unit
  rw [List.length_cons, List.length_replicate]
  omega
theorem unit_at {n i : Nat} (h : i < n) : at0 (unit n) i = if i = 0 then 1 else 0 := by
  cases i with
  | zero => rw [if_pos rfl]; exact at0_of rfl
  | succ i =>
    rw [if_neg (by omega)]
    refine at0_of ?_
    unfold unit
    rw [List.getElem?_cons_succ, List.getElem?_replicate, if_pos (by omega)]
theorem law8_unit {p : Nat} (G : Good p) {x : Int} {n : Nat} (hn : 0 < n) : spn p x (unit n) = List.replicate n 1 := by
  have hp := G.two
  haveI : NeZero p := ⟨by omega⟩
  refine rests_ext (fhom p) (n := n) (by rw [spn_len, unit_len hn]) (List.length_replicate ..) (spn_bd (by omega)) ?_ fun k hk => ?_
  · intro z hz
    rw [(List.mem_replicate.mp hz).2]
    exact ⟨by omega, by omega⟩
  · rw [spn_ph _ (by rw [unit_len hn]; exact hk), unit_len hn]
    unfold phr F
    rw [at0_of (l := List.replicate n (1 : Int)) (z := 1) (by rw [List.getElem?_replicate, if_pos hk]), (fhom p).one]
    rw [S_one _ 0 n hn fun i hi ne => by
      show (fhom p).ph (at0 (unit n) i) * _ = 0
      rw [unit_at hi, if_neg ne, (fhom p).zero]; exact Semiring.zero_mul _]
    show (fhom p).ph (at0 (unit n) 0) * _ = 1
    rw [unit_at hn, if_pos rfl, (fhom p).one, Nat.zero_mul, pw_zero]
    exact Semiring.mul_one _
theorem law8_ones {p : Nat} (G : Good p) {x : Int} {n : Nat} (o : Ord p x n) : spn p x (List.replicate n 1) = (unit n).map fun k => (n : Int) * k % (p : Int) := by
  have hp := G.two
  haveI : NeZero p := ⟨by omega⟩
  have r := o.root (fhom p) hp
  have hn := o.pos
  refine rests_ext (fhom p) (n := n) (by rw [spn_len, List.length_replicate]) (by rw [List.length_map, unit_len hn]) (spn_bd (by omega)) ?_ fun k hk => ?_
  · intro z hz
    obtain ⟨k, _, e⟩ := List.mem_map.mp hz
    rw [← e]
    exact emod_bd (by omega) _
  · rw [spn_ph _ (by rw [List.length_replicate]; exact hk), List.length_replicate]
    have e : at0 ((unit n).map fun k => (n : Int) * k % (p : Int)) k = (n : Int) * at0 (unit n) k % (p : Int) := by
      refine at0_of ?_
      rw [List.getElem?_map, at0_get (by rw [unit_len hn]; exact hk)]
      rfl
    unfold phr F
    rw [e, (fhom p).mod, (fhom p).mul, (fhom p).N, unit_at hk]
    rw [S_congr (g := fun j => (fhom p).ph x ^ (j * k)) fun j hj => by
      show (fhom p).ph (at0 (List.replicate n 1) j) * _ = _
      rw [at0_of (l := List.replicate n (1 : Int)) (z := 1) (by rw [List.getElem?_replicate, if_pos hj]), (fhom p).one]
      exact Semiring.one_mul _]
    rw [r.orth (G.dom (fhom p)), Nat.mod_eq_of_lt hk]
    by_cases c : k = 0
    · rw [if_pos c, if_pos c, (fhom p).one]
      exact (Semiring.mul_one _).symm
    · rw [if_neg c, if_neg c, (fhom p).zero]
      exact (Semiring.mul_zero _).symm
end Spm

namespace Spm
open Lean.Grind
/-! Law 6: there and back. -/
def backL (p : Nat) (x : Int) (row : List Int) : List Int := (spn p (inv p x) row).map fun z => z * inv p row.length % (p : Int)
theorem backL_len (p : Nat) (x : Int) (row : List Int) : (backL p x row).length = row.length := by
  unfold backL
  rw [List.length_map, spn_len]
theorem backL_bd {p : Nat} (hp : 0 < p) (x : Int) (row : List Int) : ∀ z ∈ backL p x row, 0 ≤ z ∧ z < p := by
  intro z hz
  obtain ⟨k, _, e⟩ := List.mem_map.mp hz
  rw [← e]
  exact emod_bd hp _
theorem backL_at {p : Nat} {x : Int} {row : List Int} {k : Nat} (hk : k < row.length) : at0 (backL p x row) k = at0 (spn p (inv p x) row) k * inv p row.length % (p : Int) := by
  refine at0_of ?_
  unfold backL
  rw [List.getElem?_map, at0_get (by rw [spn_len]; exact hk)]
  rfl
theorem ph_inv {p : Nat} {R : Type} [CommRing R] (h : Hom p R) (G : Good p) {x : Int} (h0 : 0 < x) (h1 : x < p) : h.ph x * h.ph (inv p x) = 1 := by
  have e := (h.is1 G.two _).mpr (inv_mul G h0 h1)
  rw [h.mul] at e
  grind
theorem ord_lt {p : Nat} (G : Good p) {x : Int} (h0 : 0 < x) (h1 : x < p) {n : Nat} (o : Ord p x n) : n < p := by
  have d := Nat.dvd_of_mod_eq_zero (G.ord_dvd h0 h1 o)
  have := Nat.le_of_dvd (by have := G.two; omega) d
  have := G.two
  omega
theorem back_turned {p : Nat} (G : Good p) {x : Int} {A : List Int} (x0 : 0 < x) (x1 : x < p) (hA : ∀ z ∈ A, 0 ≤ z ∧ z < (p : Int)) (o : Ord p x A.length) : backL p x (spn p x A) = A := by
  have hp := G.two
  haveI : NeZero p := ⟨by omega⟩
  have r := o.root (fhom p) hp
  have hn := o.pos
  have nlt := ord_lt G x0 x1 o
  have hi := ph_inv (fhom p) G x0 x1
  have hN := ph_inv (fhom p) G (x := (A.length : Int)) (by omega) (by omega)
  refine rests_ext (fhom p) (n := A.length) (by rw [backL_len, spn_len]) rfl (backL_bd (by omega) _ _) hA fun k hk => ?_
  unfold phr
  rw [backL_at (by rw [spn_len]; exact hk), (fhom p).mod, (fhom p).mul, spn_len]
  have q := spn_ph (fhom p) (x := inv p x) (row := spn p x A) (k := k) (by rw [spn_len]; exact hk)
  unfold phr at q
  rw [q, spn_len]
  have q2 : F ((fhom p).ph (inv p x)) A.length (fun j => (fhom p).ph (at0 (spn p x A) j)) k = N (Fin p) A.length * (fhom p).ph (at0 A k) := by
    show F ((fhom p).ph (inv p x)) A.length (phr (fhom p) (spn p x A)) k = N (Fin p) A.length * (fhom p).ph (at0 A k)
    rw [F_congr (g := F ((fhom p).ph x) A.length (phr (fhom p) A)) (fun i hi => spn_ph (fhom p) hi), F_back (G.dom (fhom p)) r hi _ k hk]
    rfl
  rw [q2, ← (fhom p).N]
  grind
theorem turned_backL {p : Nat} (G : Good p) {x : Int} {A : List Int} (x0 : 0 < x) (x1 : x < p) (hA : ∀ z ∈ A, 0 ≤ z ∧ z < (p : Int)) (o : Ord p x A.length) : spn p x (backL p x A) = A := by
  have hp := G.two
  haveI : NeZero p := ⟨by omega⟩
  have r := o.root (fhom p) hp
  have hn := o.pos
  have nlt := ord_lt G x0 x1 o
  have hi := ph_inv (fhom p) G x0 x1
  have hN := ph_inv (fhom p) G (x := (A.length : Int)) (by omega) (by omega)
  have ri := r.inv hi
  refine rests_ext (fhom p) (n := A.length) (by rw [spn_len, backL_len]) rfl (spn_bd (by omega)) hA fun k hk => ?_
  rw [spn_ph (fhom p) (by rw [backL_len]; exact hk), backL_len]
  rw [F_congr (g := fun j => F ((fhom p).ph (inv p x)) A.length (phr (fhom p) A) j * (fhom p).ph (inv p A.length)) fun j hj => by
    unfold phr
    rw [backL_at hj, (fhom p).mod, (fhom p).mul]
    have q := spn_ph (fhom p) (x := inv p x) (row := A) hj
    unfold phr at q
    rw [q]]
  have e : F ((fhom p).ph x) A.length (fun j => F ((fhom p).ph (inv p x)) A.length (phr (fhom p) A) j * (fhom p).ph (inv p A.length)) k = F ((fhom p).ph x) A.length (F ((fhom p).ph (inv p x)) A.length (phr (fhom p) A)) k * (fhom p).ph (inv p A.length) := by
    rw [F, F, ← S_mul_r]
    refine S_congr fun j _ => ?_
    grind
  rw [e, F_back (G.dom (fhom p)) ri (by grind) _ k hk, ← (fhom p).N]
  grind
end Spm

namespace Spm
open Lean.Grind
/-! Law 3: orders and roots. -/
open Classical in
noncomputable def ordF (p : Nat) (a : Int) : Nat := if h : ∃ n, Ord p a n then Classical.choose h else 0
theorem ordF_ok {p : Nat} (G : Good p) {a : Int} (h0 : 0 < a) (h1 : a < p) : Ord p a (ordF p a) := by
  obtain ⟨n, _, o⟩ := G.has_ord h0 h1
  have h : ∃ n, Ord p a n := ⟨n, o⟩
  unfold ordF
  rw [dif_pos h]
  exact Classical.choose_spec h
/-- the roots of a size among the first i rests from 1 on -/
noncomputable def rootsP (p : Nat) (size : Int) (i : Nat) : List Int := ((List.range i).filter fun j : Nat => decide ((ordF p (1 + (j : Int)) : Int) = size)).map fun j : Nat => (1 : Int) + (j : Int)
noncomputable def rootsL (p : Nat) (size : Int) : List Int := rootsP p size (p - 1)
theorem rootsP_yes {p : Nat} {size : Int} {i : Nat} (h : (ordF p (1 + (i : Int)) : Int) = size) : rootsP p size (i + 1) = rootsP p size i ++ [1 + (i : Int)] := by
  unfold rootsP
  rw [List.range_succ, List.filter_append, List.map_append, List.filter_cons, if_pos (decide_eq_true h)]
  rfl
theorem rootsP_no {p : Nat} {size : Int} {i : Nat} (h : (ordF p (1 + (i : Int)) : Int) ≠ size) : rootsP p size (i + 1) = rootsP p size i := by
  unfold rootsP
  rw [List.range_succ, List.filter_append, List.map_append, List.filter_cons, if_neg (by rw [decide_eq_true_eq]; exact h)]
  exact List.append_nil _
theorem rootsP_len (p : Nat) (size : Int) (i : Nat) : (rootsP p size i).length ≤ i := by
  unfold rootsP
  rw [List.length_map]
  exact Nat.le_trans (List.length_filter_le _ _) (by rw [List.length_range]; exact Nat.le_refl _)
theorem rootsP_0 (p : Nat) (size : Int) : rootsP p size 0 = [] := rfl
/-- no roots of a size that doesn't go into the prime less one -/
theorem rootsL_nil {p : Nat} (G : Good p) {size : Int} (h : size < 1 ∨ ((p : Int) - 1) % size ≠ 0) : rootsL p size = [] := by
  have all : ∀ i, i ≤ p - 1 → rootsP p size i = [] := by
    intro i
    induction i with
    | zero => intro _; rfl
    | succ i ih =>
      intro hi
      rw [rootsP_no, ih (by omega)]
      intro e
      have o := ordF_ok G (a := 1 + (i : Int)) (by omega) (by omega)
      have d := G.ord_dvd (by omega) (by omega) o
      rcases h with h | h
      · have := o.pos; omega
      · apply h
        rw [← e, show (p : Int) - 1 = ((p - 1 : Nat) : Int) by have := G.two; omega, ← Int.natCast_emod, d]
        rfl
  exact all (p - 1) (Nat.le_refl _)
theorem rootsL_ne {p : Nat} (G : Good p) {size : Int} (h1 : 1 ≤ size) (h2 : ((p : Int) - 1) % size = 0) : 0 < (rootsL p size).length := by
  obtain ⟨g, g0, g1, hg⟩ := G.has_root
  have hp := G.two
  have e : ((size.toNat : Nat) : Int) = size := Int.toNat_of_nonneg (by omega)
  have d : (p - 1) % size.toNat = 0 := by
    have q : (((p - 1) % size.toNat : Nat) : Int) = 0 := by
      rw [Int.natCast_emod, e, show ((p - 1 : Nat) : Int) = (p : Int) - 1 by omega]
      exact h2
    omega
  have o := hg size.toNat ((p - 1) / size.toNat) (Nat.mul_div_cancel' (Nat.dvd_of_mod_eq_zero d))
  obtain ⟨b0, b1⟩ := pwm_pos G (a := g) (by omega) g1 ((p - 1) / size.toNat)
  have o' : Ord p (pwm p g ((p - 1) / size.toNat)) size.toNat := o
  generalize pwm p g ((p - 1) / size.toNat) = r at o' b0 b1
  refine List.length_pos_of_mem (a := r) ?_
  unfold rootsL rootsP
  refine List.mem_map.mpr ⟨(r - 1).toNat, List.mem_filter.mpr ⟨List.mem_range.mpr (by omega), ?_⟩, by omega⟩
  rw [decide_eq_true_eq, show (1 : Int) + ((r - 1).toNat : Int) = r by omega, (ordF_ok G (a := r) (by omega) b1).uniq o', e]
end Spm

namespace Spm
open Lean.Grind
/-! Products of rows. -/
section
variable {p : Nat} {R : Type} [CommRing R] (h : Hom p R)
theorem ph_P (n m : Nat) (f g : Nat → Int) (k : Nat) : h.ph (P n m f g k) = P n m (fun i => h.ph (f i)) (fun j => h.ph (g j)) k := by
  unfold P
  rw [h.S]
  refine S_congr fun i _ => ?_
  rw [h.S]
  refine S_congr fun j _ => ?_
  by_cases c : i + j = k
  · rw [if_pos c, if_pos c, h.mul]
  · rw [if_neg c, if_neg c, h.zero]
theorem mulL_at {A B : List Int} {k : Nat} (hk : k < A.length + B.length - 1) : at0 (mulL p A B) k = P A.length B.length (at0 A) (at0 B) k % (p : Int) := by
  unfold mulL
  rw [at0_map hk]
theorem mulL_ph {A B : List Int} {k : Nat} (hk : k < A.length + B.length - 1) : phr h (mulL p A B) k = P A.length B.length (phr h A) (phr h B) k := by
  unfold phr
  rw [mulL_at hk, h.mod, ph_P]
end
theorem mulL_bd {p : Nat} (hp : 0 < p) (A B : List Int) : ∀ z ∈ mulL p A B, 0 ≤ z ∧ z < p := by
  intro z hz
  obtain ⟨k, _, e⟩ := List.mem_map.mp hz
  rw [← e]
  exact emod_bd hp _
/-- the worth, added up power by power -/
theorem worth_sum {p : Nat} (hp : 0 < p) (row : List Int) (x : Int) : ((List.range row.length).map fun k => at0 row k * pwm p x k).sum % (p : Int) = hor p row x := by
  haveI : NeZero p := ⟨by omega⟩
  refine (fhom p).eq (emod_bd hp _) (hor_bd hp _ _) ?_
  rw [(fhom p).mod, sum_S, (fhom p).S, hor_S]
  refine S_congr fun k _ => ?_
  rw [(fhom p).mul, pwm_ph]
theorem worth_mul {p : Nat} (hp : 0 < p) (A B : List Int) (x : Int) : hor p (mulL p A B) x = hor p A x * hor p B x % (p : Int) := by
  haveI : NeZero p := ⟨by omega⟩
  refine (fhom p).eq (hor_bd hp _ _) (emod_bd hp _) ?_
  rw [(fhom p).mod, (fhom p).mul, hor_S, hor_S, hor_S, mulL_len, ← P_ev (L := A.length + B.length - 1) (fun i j hi hj => by omega)]
  refine S_congr fun k hk => ?_
  have e := mulL_ph (fhom p) (A := A) (B := B) hk
  unfold phr at e
  rw [e]
/-! ### the ring product -/
section
variable {p : Nat} {R : Type} [CommRing R] (h : Hom p R)
theorem ringL_ph {A B : List Int} (hB : B.length = A.length) {k : Nat} (hk : k < A.length) : phr h (ringL p A B) k = C A.length (phr h A) (phr h B) k := by
  unfold phr ringL foldL
  rw [at0_map hk, h.mod, h.S, mulL_len, hB]
  rw [C_P (L := A.length + A.length - 1) (fun i j hi hj => by omega)]
  refine S_congr fun m hm => ?_
  by_cases c : m % A.length = k
  · rw [if_pos c, if_pos c]
    have e := mulL_ph h (A := A) (B := B) (k := m) (by omega)
    rw [hB] at e
    exact e
  · rw [if_neg c, if_neg c, h.zero]
end
theorem ringL_bd {p : Nat} (hp : 0 < p) (A B : List Int) : ∀ z ∈ ringL p A B, 0 ≤ z ∧ z < p := by
  intro z hz
  obtain ⟨k, _, e⟩ := List.mem_map.mp hz
  rw [← e]
  exact emod_bd hp _
theorem ringL_comm {p : Nat} (hp : 0 < p) {A B : List Int} (hB : B.length = A.length) : ringL p B A = ringL p A B := by
  haveI : NeZero p := ⟨by omega⟩
  refine rests_ext (fhom p) (n := A.length) (by rw [ringL_len, hB]) (ringL_len ..) (ringL_bd hp _ _) (ringL_bd hp _ _) fun k hk => ?_
  rw [ringL_ph _ hB hk, ringL_ph _ hB.symm (by omega), hB, C_comm]
/-- where the second's place is what is left -/
def rot (n k i : Nat) : Nat := (k + (n - i)) % n
theorem rot_int {n k i : Nat} (hn : 0 < n) (hi : i < n) : (((k : Int)) - (i : Int)) % (n : Int) = (rot n k i : Int) := by
  unfold rot
  rw [Int.natCast_emod, Int.natCast_add, show ((n - i : Nat) : Int) = (n : Int) - i by omega, show (k : Int) + ((n : Int) - i) = (k : Int) - i + n by omega, Int.add_emod_right]
/-- as the law reckons it -/
def lawR (p : Nat) (A B : List Int) : List Int := (List.range A.length).map fun k => ((List.range A.length).map fun i => at0 A i * at0 B (rot A.length k i)).sum % (p : Int)
theorem rot_iff {n k i : Nat} (hk : k < n) (hi : i < n) : rot n k i < n ∧ ∀ j, j < n → ((i + j) % n = k ↔ j = rot n k i) := by
  have hn : 0 < n := by omega
  refine ⟨Nat.mod_lt _ hn, fun j hj => ?_⟩
  unfold rot
  constructor
  · intro e
    subst e
    by_cases c : i + j < n
    · rw [Nat.mod_eq_of_lt c, show i + j + (n - i) = j + n by omega, Nat.add_mod_right, Nat.mod_eq_of_lt hj]
    · have e1 : (i + j) % n = i + j - n := by rw [Nat.mod_eq_sub_mod (by omega), Nat.mod_eq_of_lt (by omega)]
      rw [e1, show i + j - n + (n - i) = j by omega, Nat.mod_eq_of_lt hj]
  · intro e
    subst e
    by_cases c : k + (n - i) < n
    · rw [Nat.mod_eq_of_lt c, show i + (k + (n - i)) = k + n by omega, Nat.add_mod_right, Nat.mod_eq_of_lt hk]
    · have e1 : (k + (n - i)) % n = k + (n - i) - n := by rw [Nat.mod_eq_sub_mod (by omega), Nat.mod_eq_of_lt (by omega)]
      rw [e1, show i + (k + (n - i) - n) = k by omega, Nat.mod_eq_of_lt hk]
theorem lawR_eq {p : Nat} (hp : 0 < p) {A B : List Int} (hB : B.length = A.length) : lawR p A B = ringL p A B := by
  haveI : NeZero p := ⟨by omega⟩
  refine rests_ext (fhom p) (n := A.length) (by unfold lawR; rw [List.length_map, List.length_range]) (ringL_len ..) ?_ (ringL_bd hp _ _) fun k hk => ?_
  · intro z hz
    obtain ⟨k, _, e⟩ := List.mem_map.mp hz
    rw [← e]
    exact emod_bd hp _
  · rw [ringL_ph _ hB hk, C_law _ _ k hk (rot A.length k) fun i hi => rot_iff hk hi]
    unfold phr lawR
    rw [at0_map hk, (fhom p).mod, sum_S, (fhom p).S]
    refine S_congr fun i _ => ?_
    rw [(fhom p).mul]
/-- turned, the ring product is the product place by place -/
theorem turned_ring {p : Nat} (G : Good p) {x : Int} {A B : List Int} (hB : B.length = A.length) (o : Ord p x A.length) :
    spn p x (ringL p A B) = (List.range A.length).map fun k => at0 (spn p x A) k * at0 (spn p x B) k % (p : Int) := by
  have hp := G.two
  haveI : NeZero p := ⟨by omega⟩
  have r := o.root (fhom p) hp
  have hn := o.pos
  refine rests_ext (fhom p) (n := A.length) (by rw [spn_len, ringL_len]) (by rw [List.length_map, List.length_range]) (spn_bd (by omega)) ?_ fun k hk => ?_
  · intro z hz
    obtain ⟨k, _, e⟩ := List.mem_map.mp hz
    rw [← e]
    exact emod_bd (by omega) _
  · rw [spn_ph _ (by rw [ringL_len]; exact hk), ringL_len, F_congr (g := C A.length (phr (fhom p) A) (phr (fhom p) B)) (fun i hi => ringL_ph _ hB hi), F_C hn r.one]
    unfold phr
    rw [at0_map hk, (fhom p).mod, (fhom p).mul]
    have q1 := spn_ph (fhom p) (x := x) (row := A) hk
    have q2 := spn_ph (fhom p) (x := x) (row := B) (k := k) (by omega)
    rw [hB] at q2
    unfold phr at q1 q2
    rw [q1, q2]
end Spm

namespace Spm
open Lean.Grind
/-! Rows through points. -/
/-- a row with s times another one added at the places below j -/
def addL (p : Nat) (Fd : List Int) (s : Int) (W : List Int) (j : Nat) : List Int := (List.range Fd.length).map fun k => if k < j then (at0 Fd k + s * at0 W k) % (p : Int) else at0 Fd k
theorem addL_len (p : Nat) (Fd : List Int) (s : Int) (W : List Int) (j : Nat) : (addL p Fd s W j).length = Fd.length := by
  unfold addL
  rw [List.length_map, List.length_range]
theorem addL_at {p : Nat} {Fd : List Int} {s : Int} {W : List Int} {j k : Nat} (hk : k < Fd.length) : at0 (addL p Fd s W j) k = if k < j then (at0 Fd k + s * at0 W k) % (p : Int) else at0 Fd k := by
  unfold addL
  rw [at0_map hk]
theorem addL_0 (p : Nat) (Fd : List Int) (s : Int) (W : List Int) : addL p Fd s W 0 = Fd :=
  ext0 (addL_len ..) rfl fun k hk => by rw [addL_at hk, if_neg (by omega)]
theorem addL_step (p : Nat) (Fd : List Int) (s : Int) (W : List Int) {j : Nat} (hj : j < Fd.length) :
    (addL p Fd s W j).set j ((at0 (addL p Fd s W j) j + s * at0 W j) % (p : Int)) = addL p Fd s W (j + 1) := by
  refine ext0 (by rw [List.length_set, addL_len]) (addL_len ..) fun k hk => ?_
  by_cases c : j = k
  · subst c
    rw [at0_of (by rw [List.getElem?_set_self (by rw [addL_len]; exact hk)]), addL_at hk, addL_at hk, if_neg (by omega), if_pos (by omega)]
  · rw [show at0 ((addL p Fd s W j).set j _) k = at0 (addL p Fd s W j) k by
      unfold at0
      rw [List.getD_eq_getElem?_getD, List.getElem?_set_ne c, ← List.getD_eq_getElem?_getD], addL_at hk, addL_at hk]
    by_cases d : k < j
    · rw [if_pos d, if_pos (by omega)]
    · rw [if_neg d, if_neg (by omega)]
theorem at0_out {l : List Int} {k : Nat} (h : l.length ≤ k) : at0 l k = 0 := by
  unfold at0
  rw [List.getD_eq_getElem?_getD, List.getElem?_eq_none h]
  rfl
theorem addL_bd {p : Nat} (hp : 0 < p) {Fd : List Int} (hF : ∀ z ∈ Fd, 0 ≤ z ∧ z < (p : Int)) (s : Int) (W : List Int) (j : Nat) : ∀ z ∈ addL p Fd s W j, 0 ≤ z ∧ z < (p : Int) := by
  intro z hz
  obtain ⟨k, hk, e⟩ := List.mem_map.mp hz
  have hk' := List.mem_range.mp hk
  rw [← e]
  by_cases c : k < j
  · rw [if_pos c]
    exact emod_bd hp _
  · rw [if_neg c]
    exact hF _ (List.mem_of_getElem? (at0_get hk'))
/-- the worth of the sum -/
theorem hor_add {p : Nat} (hp : 0 < p) (Fd : List Int) (s : Int) (W : List Int) (hW : W.length ≤ Fd.length) (x : Int) :
    hor p (addL p Fd s W W.length) x = (hor p Fd x + s * hor p W x) % (p : Int) := by
  haveI : NeZero p := ⟨by omega⟩
  refine (fhom p).eq (hor_bd hp _ _) (emod_bd hp _) ?_
  rw [(fhom p).mod, (fhom p).add, (fhom p).mul, hor_S, hor_S, hor_S, addL_len]
  have e : S (fun j => (fhom p).ph (at0 (addL p Fd s W W.length) j) * (fhom p).ph x ^ j) Fd.length = S (fun j => (fhom p).ph (at0 Fd j) * (fhom p).ph x ^ j + (fhom p).ph s * ((fhom p).ph (at0 W j) * (fhom p).ph x ^ j)) Fd.length := S_congr fun k hk => by
    rw [addL_at hk]
    by_cases c : k < W.length
    · rw [if_pos c, (fhom p).mod, (fhom p).add, (fhom p).mul]
      grind
    · rw [if_neg c, at0_out (l := W) (by omega), (fhom p).zero]
      grind
  rw [e, S_add, S_mul]
  obtain ⟨m, hm⟩ : ∃ m, Fd.length = W.length + m := ⟨Fd.length - W.length, by omega⟩
  have e2 : S (fun i => (fhom p).ph (at0 W i) * (fhom p).ph x ^ i) Fd.length = S (fun i => (fhom p).ph (at0 W i) * (fhom p).ph x ^ i) W.length := by
    rw [hm]
    refine S_cut _ _ _ fun i hi _ => ?_
    rw [at0_out hi, (fhom p).zero]
    grind
  rw [e2]
/-- the worth of the factor x - a -/
theorem hor_lin {p : Nat} {R : Type} [CommRing R] (h : Hom p R) (a x : Int) : h.ph (hor p [(-a) % (p : Int), 1] x) = h.ph x - h.ph a := by
  rw [hor_ph]
  simp only [List.map_cons, List.map_nil, ev]
  rw [h.mod, h.neg, h.one]
  grind
/-- what the loop over the points keeps: found has as its worths the seconds, whole is 0 at just the firsts -/
structure Thru (p n : Nat) (done : List (Int × Int)) (Fd W : List Int) : Prop where
  fl : Fd.length = n
  fb : ∀ z ∈ Fd, 0 ≤ z ∧ z < (p : Int)
  wl : W.length = done.length + 1
  wb : ∀ z ∈ W, 0 ≤ z ∧ z < (p : Int)
  firsts : ∀ q ∈ done, 0 ≤ q.1 ∧ q.1 < (p : Int)
  hits : ∀ q ∈ done, hor p Fd q.1 = q.2
  zero : ∀ x : Int, 0 ≤ x → x < (p : Int) → (hor p W x = 0 ↔ x ∈ done.map (·.1))
theorem Thru.start {p : Nat} (hp : 2 ≤ p) (n : Nat) : Thru p n [] (List.replicate n 0) [1] where
  fl := List.length_replicate ..
  fb := fun z hz => by rw [(List.mem_replicate.mp hz).2]; exact ⟨by omega, by omega⟩
  wl := rfl
  wb := fun z hz => by rw [List.mem_singleton.mp hz]; exact ⟨by omega, by omega⟩
  firsts := fun q hq => absurd hq (List.not_mem_nil)
  hits := fun q hq => absurd hq (List.not_mem_nil)
  zero := fun x _ _ => by
    have e : hor p [1] x = 1 := by
      rw [hor_cons, hor_nil, Int.zero_mul, Int.zero_add]
      exact Int.emod_eq_of_lt (by omega) (by omega)
    rw [e]
    simp
theorem Thru.turn {p n : Nat} (G : Good p) {done : List (Int × Int)} {Fd W : List Int} {x y : Int} (T : Thru p n done Fd W) (hd : done.length < n) (x0 : 0 ≤ x) (x1 : x < p) (y0 : 0 ≤ y) (y1 : y < p) (nx : x ∉ done.map (·.1)) :
    (1 ≤ hor p W x ∧ hor p W x < p) ∧
    Thru p n (done ++ [(x, y)]) (addL p Fd ((y - hor p Fd x) * inv p (hor p W x) % (p : Int)) W W.length) (mulL p W [(-x) % (p : Int), 1]) := by
  have hp := G.two
  haveI : NeZero p := ⟨by omega⟩
  have D := G.dom (fhom p)
  have wbd := hor_bd (p := p) (by omega) W x
  have w0 : hor p W x ≠ 0 := fun e => nx ((T.zero x x0 x1).mp e)
  have hle : W.length ≤ Fd.length := by rw [T.wl, T.fl]; omega
  refine ⟨⟨by omega, wbd.2⟩, ⟨by rw [addL_len]; exact T.fl, addL_bd (by omega) T.fb _ _ _, ?_, mulL_bd (by omega) _ _, ?_, ?_, ?_⟩⟩
  · rw [mulL_len, List.length_append, T.wl]
    show done.length + 1 + 2 - 1 = done.length + 1 + 1
    omega
  · intro q hq
    rcases List.mem_append.mp hq with h | h
    · exact T.firsts q h
    · rw [List.mem_singleton.mp h]; exact ⟨x0, x1⟩
  · intro q hq
    rw [hor_add (by omega) _ _ _ hle]
    have fbd := hor_bd (p := p) (by omega) Fd x
    rcases List.mem_append.mp hq with h | h
    · have c := T.firsts q h
      have z : hor p W q.1 = 0 := (T.zero q.1 c.1 c.2).mpr (List.mem_map.mpr ⟨q, h, rfl⟩)
      rw [z, Int.mul_zero, Int.add_zero, T.hits q h]
      have b := hor_bd (p := p) (by omega) Fd q.1
      rw [T.hits q h] at b
      exact Int.emod_eq_of_lt b.1 b.2
    · have e : q = (x, y) := List.mem_singleton.mp h
      subst e
      show (hor p Fd x + (y - hor p Fd x) * inv p (hor p W x) % (p : Int) * hor p W x) % (p : Int) = y
      refine (fhom p).eq (emod_bd (by omega) _) ⟨y0, y1⟩ ?_
      rw [(fhom p).mod, (fhom p).add, (fhom p).mul, (fhom p).mod, (fhom p).mul, (fhom p).sub]
      have i := ph_inv (fhom p) G (x := hor p W x) (by omega) wbd.2
      grind
  · intro z z0 z1
    rw [worth_mul (by omega)]
    have e : hor p W z * hor p [(-x) % (p : Int), 1] z % (p : Int) = 0 ↔ (hor p W z = 0 ∨ z = x) := by
      have bb := hor_bd (p := p) (by omega) W z
      rw [← (fhom p).ne0 (emod_bd (by omega) _), (fhom p).mod, (fhom p).mul, hor_lin]
      constructor
      · intro q
        rcases D _ _ q with r | r
        · exact .inl (((fhom p).ne0 bb).mp r)
        · right
          refine (fhom p).eq ⟨z0, z1⟩ ⟨x0, x1⟩ ?_
          grind
      · intro q
        rcases q with r | r
        · rw [r, (fhom p).zero]; grind
        · rw [r]; grind
    rw [e, T.zero z z0 z1, List.map_append, List.mem_append]
    simp
/-- there is just one row of as many numbers -/
theorem thru_uniq {p : Nat} (G : Good p) {xs : List Int} {A B : List Int} (hA : A.length = xs.length) (hB : B.length = xs.length) (rA : ∀ z ∈ A, 0 ≤ z ∧ z < (p : Int)) (rB : ∀ z ∈ B, 0 ≤ z ∧ z < (p : Int))
    (nd : xs.Nodup) (hx : ∀ x ∈ xs, 0 ≤ x ∧ x < (p : Int)) (h : ∀ x ∈ xs, hor p A x = hor p B x) : A = B := by
  have hp := G.two
  haveI : NeZero p := ⟨by omega⟩
  have e : A.map (fhom p).ph = B.map (fhom p).ph := by
    refine ev_eq (G.dom (fhom p)) (xs := xs.map (fhom p).ph) (by rw [List.length_map, List.length_map, hA]) (by rw [List.length_map, List.length_map, hB]) ?_ ?_
    · refine List.pairwise_map.mpr ?_
      refine List.Pairwise.imp_of_mem ?_ nd
      intro a b ha hb ne q
      exact ne ((fhom p).eq (hx a ha) (hx b hb) q)
    · intro z hz
      obtain ⟨x, hx', rfl⟩ := List.mem_map.mp hz
      rw [← hor_ph, ← hor_ph, h x hx']
  refine rests_ext (fhom p) (n := xs.length) hA hB rA rB fun i hi => ?_
  unfold phr
  rw [← map_getD, ← map_getD, e]
end Spm

namespace Spm
open Lean.Grind
/-! Law 11: turned rows as worths; the ring product by the plain one. -/
theorem S_split {R : Type} [CommRing R] (f : Nat → R) (n : Nat) : ∀ m, S f (n + m) = S f n + S (fun i => f (n + i)) m
  | 0 => by rw [S_zero, Nat.add_zero]; grind
  | m + 1 => by
    rw [← Nat.add_assoc, S_succ, S_split f n m, S_succ]; grind
theorem pow_inj {p : Nat} (hp : 2 ≤ p) {x : Int} {n : Nat} (o : Ord p x n) {i j : Nat} (hij : i < j) (hj : j < n) : pwm p x i ≠ pwm p x j := by
  intro e
  haveI : NeZero p := ⟨by omega⟩
  have r := o.root (fhom p) hp
  have e1 : (fhom p).ph x ^ i = (fhom p).ph x ^ j := by rw [← pwm_ph, ← pwm_ph, e]
  refine r.low (j - i) (by omega) (by omega) ?_
  have a : (fhom p).ph x ^ (n - i) * (fhom p).ph x ^ i = 1 := by rw [← pw_add, Nat.sub_add_cancel (by omega), r.one]
  have b : (fhom p).ph x ^ (n - i) * (fhom p).ph x ^ j = (fhom p).ph x ^ (j - i) := by
    rw [← pw_add, show n - i + j = n + (j - i) by omega, pw_add, r.one]; grind
  rw [← b, ← e1, a]
theorem pow_nodup {p : Nat} (hp : 2 ≤ p) {x : Int} {n : Nat} (o : Ord p x n) : ((List.range n).map (pwm p x)).Nodup := by
  refine List.pairwise_map.mpr ?_
  have h : (List.range n).Pairwise fun i j => i < j := List.pairwise_lt_range
  refine List.Pairwise.imp_of_mem ?_ h
  intro a b ha hb lt
  exact pow_inj hp o lt (List.mem_range.mp hb)
/-- the points of a turned row -/
def ptsOf (p : Nat) (x : Int) (A : List Int) (n : Nat) : List (Int × Int) := (List.range n).map fun k => (pwm p x k, hor p A (pwm p x k))
theorem ptsOf_fst (p : Nat) (x : Int) (A : List Int) (n : Nat) : (ptsOf p x A n).map (·.1) = (List.range n).map (pwm p x) := by
  unfold ptsOf
  rw [List.map_map]
  rfl
theorem ptsOf_snd (p : Nat) (x : Int) (A : List Int) : (ptsOf p x A A.length).map (·.2) = spn p x A := by
  unfold ptsOf spn
  rw [List.map_map]
  rfl
theorem thru_turned {p : Nat} (G : Good p) {x : Int} {A r : List Int} (o : Ord p x A.length) (hA : ∀ z ∈ A, 0 ≤ z ∧ z < (p : Int)) (hl : r.length = A.length) (hr : ∀ z ∈ r, 0 ≤ z ∧ z < (p : Int))
    (h : ∀ q ∈ ptsOf p x A A.length, hor p r q.1 = q.2) : r = A := by
  refine thru_uniq G (xs := (List.range A.length).map (pwm p x)) (by rw [List.length_map, List.length_range]; exact hl) (by rw [List.length_map, List.length_range]) hr hA (pow_nodup G.two o) ?_ ?_
  · intro z hz
    obtain ⟨k, _, rfl⟩ := List.mem_map.mp hz
    exact pwm_bd (by have := G.two; omega) _ _
  · intro z hz
    obtain ⟨k, hk, rfl⟩ := List.mem_map.mp hz
    exact h (pwm p x k, hor p A (pwm p x k)) (List.mem_map.mpr ⟨k, hk, rfl⟩)
theorem ring_plain {p : Nat} {A B : List Int} (hB : B.length = A.length) (hn : 0 < A.length) :
    ringL p A B = (List.range A.length).map fun k => (at0 (mulL p A B ++ [0]) k + at0 (mulL p A B ++ [0]) (k + A.length)) % (p : Int) := by
  have lM : (mulL p A B).length = A.length + A.length - 1 := by rw [mulL_len, hB]
  have ap : ∀ j, j < A.length + A.length → at0 (mulL p A B ++ [0]) j = at0 (mulL p A B) j := fun j hj => by
    by_cases c : j < (mulL p A B).length
    · refine at0_of ?_
      rw [List.getElem?_append_left c]
      exact at0_get c
    · rw [at0_out (l := mulL p A B) (by omega)]
      refine at0_of ?_
      rw [List.getElem?_append_right (by omega), show j - (mulL p A B).length = 0 by omega]
      rfl
  refine ext0 (ringL_len ..) (by rw [List.length_map, List.length_range]) fun k hk => ?_
  rw [at0_map hk, ap k (by omega), ap (k + A.length) (by omega)]
  unfold ringL foldL
  rw [at0_map hk]
  congr 1
  have e0 : S (fun m => if m % A.length = k then at0 (mulL p A B) m else 0) (mulL p A B).length = S (fun m => if m % A.length = k then at0 (mulL p A B) m else 0) (A.length + A.length) := by
    have e : A.length + A.length = (mulL p A B).length + 1 := by omega
    rw [e, S_succ, at0_out (Nat.le_refl _)]
    have z : (if (mulL p A B).length % A.length = k then (0 : Int) else 0) = 0 := by split <;> rfl
    rw [z]
    exact (int_add0 _).symm
  rw [e0, S_split]
  have e1 : S (fun m => if m % A.length = k then at0 (mulL p A B) m else 0) A.length = at0 (mulL p A B) k :=
    S_pick (fun m => at0 (mulL p A B) m) (fun m => m % A.length = k) k A.length hk fun i hi => by rw [Nat.mod_eq_of_lt hi]
  have e2 : S (fun i => if (A.length + i) % A.length = k then at0 (mulL p A B) (A.length + i) else 0) A.length = at0 (mulL p A B) (A.length + k) :=
    S_pick (fun i => at0 (mulL p A B) (A.length + i)) (fun i => (A.length + i) % A.length = k) k A.length hk fun i hi => by rw [Nat.add_mod_left, Nat.mod_eq_of_lt hi]
  rw [e1, e2, Nat.add_comm A.length k]
end Spm

namespace Spm
open Lean.Grind
/-! Law 12: long products by figures. -/
def Figs (A : List Int) : Prop := ∀ z ∈ A, 0 ≤ z ∧ z ≤ 9
/-- the sum at a place, over the whole numbers -/
def cf (A B : List Int) (k : Nat) : Int := P A.length B.length (at0 A) (at0 B) k
def cr (A B : List Int) : Nat → Int
  | 0 => 0
  | k + 1 => (cr A B k + cf A B k) / 10
def prodL (A B : List Int) : List Int := (List.range (A.length + B.length)).map fun k => (cr A B k + cf A B k) % 10
theorem prodL_len (A B : List Int) : (prodL A B).length = A.length + B.length := by
  unfold prodL
  rw [List.length_map, List.length_range]
theorem cf_comm (A B : List Int) (k : Nat) : cf B A k = cf A B k := P_comm _ _ _ _ _
theorem cr_comm (A B : List Int) : ∀ k, cr B A k = cr A B k
  | 0 => rfl
  | k + 1 => by
    show (cr B A k + cf B A k) / 10 = (cr A B k + cf A B k) / 10
    rw [cr_comm A B k, cf_comm]
theorem prodL_comm (A B : List Int) : prodL B A = prodL A B := by
  unfold prodL
  rw [Nat.add_comm]
  refine List.map_congr_left fun k _ => ?_
  rw [cr_comm, cf_comm]
/-- what a figure row tells -/
def told (A : List Int) : Int := A.foldr (fun c a => 10 * a + c) 0
theorem told_cons (c : Int) (A : List Int) : told (c :: A) = 10 * told A + c := rfl
theorem told_drop {A : List Int} {z : Int} {i : Nat} (hi : i < A.length) (h : A[A.length - 1 - i]? = some z) : told (A.drop (A.length - (i + 1))) = 10 * told (A.drop (A.length - i)) + z := by
  have e1 : A.length - (i + 1) = A.length - 1 - i := by omega
  have e2 : A.length - i = A.length - 1 - i + 1 := by omega
  rw [e1, e2]
  obtain ⟨hl, e⟩ := List.getElem?_eq_some_iff.mp h
  rw [List.drop_eq_getElem_cons hl, e, told_cons]
theorem told_bd : ∀ {A : List Int}, Figs A → 0 ≤ told A ∧ told A < 10 ^ A.length
  | [], _ => by show (0 : Int) ≤ 0 ∧ (0 : Int) < 10 ^ 0; decide
  | c :: A, h => by
    obtain ⟨a, b⟩ := told_bd (A := A) fun z hz => h z (List.mem_cons_of_mem _ hz)
    have c0 := h c (List.mem_cons_self ..)
    rw [told_cons, List.length_cons, Int.pow_succ]
    generalize told A = t at a b ⊢
    generalize (10 : Int) ^ A.length = u at b ⊢
    omega
theorem told_S : ∀ A : List Int, told A = S (fun k => at0 A k * 10 ^ k) A.length
  | [] => rfl
  | c :: A => by
    rw [told_cons, told_S A, List.length_cons, S_left, ← S_mul]
    have e : S (fun i => (10 : Int) * (at0 A i * 10 ^ i)) A.length = S (fun i => at0 (c :: A) (i + 1) * 10 ^ (i + 1)) A.length := S_congr fun i _ => by
      have e2 : at0 (c :: A) (i + 1) = at0 A i := rfl
      rw [e2, Int.pow_succ]
      generalize (10 : Int) ^ i = u
      generalize at0 A i = v
      rw [← Int.mul_assoc, Int.mul_comm 10 v, Int.mul_assoc, Int.mul_comm 10 u]
    rw [e]
    have e3 : at0 (c :: A) 0 = c := rfl
    rw [e3, Int.pow_zero]
    generalize S (fun i => at0 (c :: A) (i + 1) * 10 ^ (i + 1)) A.length = t
    show t + c = c * 1 + t
    omega
theorem S_bd {f : Nat → Int} {M : Int} : ∀ {n : Nat}, (∀ i, i < n → 0 ≤ f i ∧ f i ≤ M) → 0 ≤ S f n ∧ S f n ≤ n * M
  | 0, _ => by
    rw [S_zero]
    show (0 : Int) ≤ 0 ∧ (0 : Int) ≤ ((0 : Nat) : Int) * M
    simp
  | n + 1, h => by
    obtain ⟨a, b⟩ := S_bd (f := f) (n := n) fun i hi => h i (by omega)
    have c := h n (by omega)
    rw [S_succ]
    have e : ((n + 1 : Nat) : Int) * M = n * M + M := by
      rw [show ((n + 1 : Nat) : Int) = (n : Int) + 1 from rfl, Int.add_mul, Int.one_mul]
    rw [e]
    generalize (n : Int) * M = u at b ⊢
    generalize S f n = v at a b ⊢
    show 0 ≤ v + f n ∧ v + f n ≤ u + M
    omega
theorem cf_bd {A B : List Int} (hA : Figs A) (hB : Figs B) (k : Nat) : 0 ≤ cf A B k ∧ cf A B k ≤ A.length * 81 := by
  refine S_bd fun i hi => ?_
  have a := hA _ (List.mem_of_getElem? (at0_get hi))
  by_cases c : i ≤ k ∧ k - i < B.length
  · have e : S (fun j => if i + j = k then at0 A i * at0 B j else 0) B.length = at0 A i * at0 B (k - i) :=
      S_pick (fun j => at0 A i * at0 B j) (fun j => i + j = k) (k - i) B.length c.2 fun j _ => by omega
    rw [e]
    have b := hB _ (List.mem_of_getElem? (at0_get c.2))
    refine ⟨Int.mul_nonneg a.1 b.1, ?_⟩
    have q : at0 A i * at0 B (k - i) ≤ 9 * 9 := Int.mul_le_mul a.2 b.2 b.1 (by decide)
    exact q
  · rw [S_eq0 fun j hj => by rw [if_neg (by omega)]]
    show (0 : Int) ≤ 0 ∧ (0 : Int) ≤ 81
    decide
theorem cr_bd {A B : List Int} (hA : Figs A) (hB : Figs B) : ∀ k, 0 ≤ cr A B k
  | 0 => Int.le_refl _
  | k + 1 => by
    have a := cr_bd hA hB k
    have b := (cf_bd hA hB k).1
    show 0 ≤ (cr A B k + cf A B k) / 10
    omega
theorem carry_sum (A B : List Int) : ∀ m, S (fun k => ((cr A B k + cf A B k) % 10) * 10 ^ k) m + 10 ^ m * cr A B m = S (fun k => cf A B k * 10 ^ k) m
  | 0 => by
    rw [S_zero, S_zero]
    show (0 : Int) + 10 ^ 0 * 0 = 0
    simp
  | m + 1 => by
    have ih := carry_sum A B m
    rw [S_succ, S_succ, ← ih]
    have e : cr A B (m + 1) = (cr A B m + cf A B m) / 10 := rfl
    rw [e, Int.pow_succ]
    have d := Int.emod_add_mul_ediv (cr A B m + cf A B m) 10
    generalize S (fun k => ((cr A B k + cf A B k) % 10) * 10 ^ k) m = s
    generalize (10 : Int) ^ m = u
    generalize (cr A B m + cf A B m) / 10 = q at d ⊢
    generalize (cr A B m + cf A B m) % 10 = r at d ⊢
    generalize cr A B m = x at d ⊢
    generalize cf A B m = y at d ⊢
    have d2 : y = r + 10 * q - x := by omega
    rw [d2]
    show s + r * u + u * 10 * q = s + u * x + (r + 10 * q - x) * u
    grind
theorem prodL_told {A B : List Int} (hA : Figs A) (hB : Figs B) : told (prodL A B) = told A * told B ∧ Figs (prodL A B) := by
  have hF : Figs (prodL A B) := by
    intro z hz
    obtain ⟨k, _, rfl⟩ := List.mem_map.mp hz
    omega
  refine ⟨?_, hF⟩
  have e := carry_sum A B (A.length + B.length)
  have e1 : S (fun k => cf A B k * 10 ^ k) (A.length + B.length) = told A * told B := by
    rw [told_S A, told_S B]
    exact P_ev (fun i j hi hj => by omega) (at0 A) (at0 B) (10 : Int)
  have e2 : S (fun k => ((cr A B k + cf A B k) % 10) * 10 ^ k) (A.length + B.length) = told (prodL A B) := by
    rw [told_S, prodL_len]
    refine S_congr fun k hk => ?_
    have q : at0 (prodL A B) k = (cr A B k + cf A B k) % 10 := by
      unfold prodL
      rw [at0_map hk]
    rw [q]
  rw [e1, e2] at e
  have b := told_bd hF
  have bA := told_bd hA
  have bB := told_bd hB
  have c := cr_bd hA hB (A.length + B.length)
  have lt : told A * told B < 10 ^ (A.length + B.length) := by
    rw [Int.pow_add]
    by_cases z : told B = 0
    · rw [z, Int.mul_zero]
      exact Int.mul_pos (Int.pow_pos (by decide)) (Int.pow_pos (by decide))
    · have h1 : told A * told B < 10 ^ A.length * told B := Int.mul_lt_mul_of_pos_right bA.2 (by omega)
      have h2 : (10 : Int) ^ A.length * told B ≤ 10 ^ A.length * 10 ^ B.length := Int.mul_le_mul_of_nonneg_left (by omega) (Int.le_of_lt (Int.pow_pos (by decide)))
      omega
  have z : cr A B (A.length + B.length) = 0 := by
    by_cases y : cr A B (A.length + B.length) = 0
    · exact y
    · have h1 : (10 : Int) ^ (A.length + B.length) * 1 ≤ 10 ^ (A.length + B.length) * cr A B (A.length + B.length) := Int.mul_le_mul_of_nonneg_left (by omega) (Int.le_of_lt (Int.pow_pos (by decide)))
      have e' : told (prodL A B) + 10 ^ (A.length + B.length) * cr A B (A.length + B.length) = told A * told B := e
      generalize (10 : Int) ^ (A.length + B.length) * cr A B (A.length + B.length) = g at h1 e'
      generalize (10 : Int) ^ (A.length + B.length) = u at h1 lt
      omega
  rw [z] at e
  have e' : told (prodL A B) + 10 ^ (A.length + B.length) * 0 = told A * told B := e
  rw [Int.mul_zero, Int.add_zero] at e'
  exact e'
end Spm

namespace Spm
open Lean.Grind
/-! Law 4: how many roots. -/
theorem sorted_one : ∀ {l m : List Int}, l.Perm m → l.Pairwise (· ≤ ·) → m.Pairwise (· ≤ ·) → l = m
  | [], m, h, _, _ => (List.Perm.nil_eq h)
  | x :: l, m, h, a, b => by
    obtain ⟨y, m', rfl⟩ : ∃ y m', m = y :: m' := by
      cases m with
      | nil => exact absurd h.length_eq (by simp)
      | cons y m' => exact ⟨y, m', rfl⟩
    have hx : x ∈ y :: m' := h.mem_iff.mp (List.mem_cons_self ..)
    have hy : y ∈ x :: l := h.mem_iff.mpr (List.mem_cons_self ..)
    have e : x = y := by
      rcases List.mem_cons.mp hx with e | e
      · exact e
      · rcases List.mem_cons.mp hy with e2 | e2
        · exact e2.symm
        · have h1 := (List.pairwise_cons.mp a).1 y e2
          have h2 := (List.pairwise_cons.mp b).1 x e
          omega
    subst e
    rw [sorted_one (List.Perm.cons_inv h) (List.pairwise_cons.mp a).2 (List.pairwise_cons.mp b).2]
theorem sorted_set {l m : List Int} (nl : l.Nodup) (nm : m.Nodup) (h : ∀ x, x ∈ l ↔ x ∈ m) : l.Perm m := (List.perm_ext_iff_of_nodup nl nm).mpr h
/-- the numbers from 1 on, below a bound, of a kind -/
def upTo (n : Nat) (c : Nat → Bool) : List Int := ((List.range n).filter c).map fun j : Nat => (1 : Int) + (j : Int)
theorem upTo_lt (n : Nat) (c : Nat → Bool) : (upTo n c).Pairwise (· < ·) := by
  unfold upTo
  refine List.pairwise_map.mpr ?_
  refine List.Pairwise.imp ?_ (List.Pairwise.filter c (List.pairwise_lt_range (n := n)))
  intro a b h
  omega
theorem upTo_nodup (n : Nat) (c : Nat → Bool) : (upTo n c).Nodup := (upTo_lt n c).imp fun h => Int.ne_of_lt h
theorem upTo_le (n : Nat) (c : Nat → Bool) : (upTo n c).Pairwise (· ≤ ·) := (upTo_lt n c).imp fun h => Int.le_of_lt h
theorem upTo_mem {n : Nat} {c : Nat → Bool} {x : Int} : x ∈ upTo n c ↔ 1 ≤ x ∧ x ≤ n ∧ c (x - 1).toNat = true := by
  unfold upTo
  constructor
  · intro h
    obtain ⟨j, hj, rfl⟩ := List.mem_map.mp h
    obtain ⟨h1, h2⟩ := List.mem_filter.mp hj
    have h3 := List.mem_range.mp h1
    refine ⟨by omega, by omega, ?_⟩
    rw [show ((1 : Int) + (j : Int) - 1).toNat = j by omega]
    exact h2
  · rintro ⟨h1, h2, h3⟩
    exact List.mem_map.mpr ⟨(x - 1).toNat, List.mem_filter.mpr ⟨List.mem_range.mpr (by omega), h3⟩, by omega⟩
theorem upTo_yes {i : Nat} {c : Nat → Bool} (h : c i = true) : upTo (i + 1) c = upTo i c ++ [1 + (i : Int)] := by
  unfold upTo
  rw [List.range_succ, List.filter_append, List.map_append, List.filter_cons, if_pos h]
  rfl
theorem upTo_no {i : Nat} {c : Nat → Bool} (h : ¬ c i = true) : upTo (i + 1) c = upTo i c := by
  unfold upTo
  rw [List.range_succ, List.filter_append, List.map_append, List.filter_cons, if_neg h]
  exact List.append_nil _
theorem upTo_len (n : Nat) (c : Nat → Bool) : (upTo n c).length ≤ n := by
  unfold upTo
  rw [List.length_map]
  exact Nat.le_trans (List.length_filter_le _ _) (by rw [List.length_range]; exact Nat.le_refl _)
theorem rootsL_upTo (p : Nat) (size : Int) : rootsL p size = upTo (p - 1) fun j => decide ((ordF p (1 + (j : Int)) : Int) = size) := rfl
theorem mem_roots {p : Nat} (G : Good p) {n : Nat} {x : Int} : x ∈ rootsL p n ↔ 1 ≤ x ∧ x < p ∧ Ord p x n := by
  have hp := G.two
  rw [rootsL_upTo, upTo_mem]
  constructor
  · rintro ⟨h1, h2, h3⟩
    have e : (1 : Int) + (((x - 1).toNat : Nat) : Int) = x := by omega
    rw [e, decide_eq_true_eq] at h3
    have o := ordF_ok G (a := x) (by omega) (by omega)
    refine ⟨h1, by omega, ?_⟩
    have e2 : ordF p x = n := by omega
    rw [← e2]
    exact o
  · rintro ⟨h1, h2, o⟩
    refine ⟨h1, by omega, ?_⟩
    have e : (1 : Int) + (((x - 1).toNat : Nat) : Int) = x := by omega
    rw [e, decide_eq_true_eq, (ordF_ok G (a := x) (by omega) h2).uniq o]
/-! ### the powers of a root -/
theorem pow_eq_mod {p : Nat} (hp : 2 ≤ p) {x : Int} {n : Nat} (o : Ord p x n) {i j : Nat} (hij : i ≤ j) (e : pwm p x i = pwm p x j) : (j - i) % n = 0 := by
  haveI : NeZero p := ⟨by omega⟩
  have r := o.root (fhom p) hp
  refine (r.eq1 _).mp ?_
  have e1 : (fhom p).ph x ^ i = (fhom p).ph x ^ j := by rw [← pwm_ph, ← pwm_ph, e]
  have hn := o.pos
  have a : (fhom p).ph x ^ (n * i - i) * (fhom p).ph x ^ i = 1 := by
    have : i ≤ n * i := Nat.le_mul_of_pos_left _ hn
    rw [← pw_add, Nat.sub_add_cancel this, pw_mul, r.one, pw_one]
  have b : (fhom p).ph x ^ (n * i - i) * (fhom p).ph x ^ j = (fhom p).ph x ^ (j - i) := by
    have h1 : i ≤ n * i := Nat.le_mul_of_pos_left _ hn
    rw [← pw_add, show n * i - i + j = n * i + (j - i) by omega, pw_add, pw_mul, r.one, pw_one]
    grind
  rw [← b, ← e1, a]
theorem ord_pow {p : Nat} (hp : 2 ≤ p) {x : Int} {n : Nat} (o : Ord p x n) (i : Nat) : Ord p (pwm p x i) n ↔ Nat.gcd i n = 1 := by
  haveI : NeZero p := ⟨by omega⟩
  have r := o.root (fhom p) hp
  have hn := o.pos
  constructor
  · intro h
    have q := h.root (fhom p) hp
    have g0 : 0 < Nat.gcd i n := Nat.gcd_pos_of_pos_right _ hn
    by_cases c : Nat.gcd i n = 1
    · exact c
    · exfalso
      have dn : Nat.gcd i n ∣ n := Nat.gcd_dvd_right _ _
      have di : Nat.gcd i n ∣ i := Nat.gcd_dvd_left _ _
      obtain ⟨m, hm⟩ := dn
      obtain ⟨k, hk⟩ := di
      have m0 : 0 < m := by
        rcases Nat.eq_zero_or_pos m with z | z
        · rw [z, Nat.mul_zero] at hm; omega
        · exact z
      have mn : m < n := by
        have h2 : 2 ≤ Nat.gcd i n := by omega
        have h3 : 2 * m ≤ Nat.gcd i n * m := Nat.mul_le_mul_right _ h2
        rw [← hm] at h3
        omega
      refine q.low m m0 mn ?_
      rw [pwm_ph, ← pw_mul, r.eq1]
      have e : i * m = k * n := by
        have e1 : i * m = Nat.gcd i n * k * m := by rw [← hk]
        have e2 : k * n = k * (Nat.gcd i n * m) := by rw [← hm]
        rw [e1, e2, Nat.mul_comm (Nat.gcd i n) k, Nat.mul_assoc]
      rw [e, Nat.mul_mod_left]
  · intro h
    refine .of_root (fhom p) hp ⟨hn, ?_, fun k k0 kn e => ?_⟩
    · rw [pwm_ph, ← pw_mul, Nat.mul_comm, pw_mul, r.one, pw_one]
    · rw [pwm_ph, ← pw_mul, r.eq1] at e
      have d : n ∣ i * k := Nat.dvd_of_mod_eq_zero e
      have cp : Nat.Coprime n i := by
        unfold Nat.Coprime
        rw [Nat.gcd_comm]
        exact h
      have d2 : n ∣ k := cp.dvd_of_dvd_mul_left d
      have := Nat.le_of_dvd k0 d2
      omega
theorem ev_last {R : Type} [CommRing R] (x : R) : ∀ n : Nat, ev (List.replicate n (0 : R) ++ [1]) x = x ^ n
  | 0 => by
    show 1 + x * 0 = x ^ 0
    rw [pw_zero]; grind
  | n + 1 => by
    show 0 + x * ev (List.replicate n (0 : R) ++ [1]) x = x ^ (n + 1)
    rw [ev_last x n, pw_succ]; grind
/-- a rest whose power by the size is 1 is a power of the root -/
theorem all_powers {p : Nat} (G : Good p) {r : Int} {n : Nat} (o : Ord p r n) {x : Int} (x0 : 0 ≤ x) (x1 : x < p) (h : pwm p x n = 1) : ∃ i, i < n ∧ x = pwm p r i := by
  have hp := G.two
  haveI : NeZero p := ⟨by omega⟩
  have D := G.dom (fhom p)
  have hn := o.pos
  have rr := o.root (fhom p) hp
  by_cases c : x ∈ (List.range n).map (pwm p r)
  · obtain ⟨i, hi, e⟩ := List.mem_map.mp c
    exact ⟨i, List.mem_range.mp hi, e.symm⟩
  · exfalso
    obtain ⟨m, rfl⟩ : ∃ m, n = m + 1 := ⟨n - 1, by omega⟩
    have nd : (x :: (List.range (m + 1)).map (pwm p r)).Nodup := List.nodup_cons.mpr ⟨c, pow_nodup hp o⟩
    have bd : ∀ z ∈ x :: (List.range (m + 1)).map (pwm p r), 0 ≤ z ∧ z < (p : Int) := fun z hz => by
      rcases List.mem_cons.mp hz with e | e
      · rw [e]; exact ⟨x0, x1⟩
      · obtain ⟨i, _, e2⟩ := List.mem_map.mp e
        rw [← e2]
        exact pwm_bd (by omega) _ _
    have nd2 : ((x :: (List.range (m + 1)).map (pwm p r)).map (fhom p).ph).Nodup := by
      refine List.pairwise_map.mpr ?_
      refine List.Pairwise.imp_of_mem ?_ nd
      intro a b ha hb ne q
      exact ne ((fhom p).eq (bd a ha) (bd b hb) q)
    have z := ev_zero D ((x :: (List.range (m + 1)).map (pwm p r)).map (fhom p).ph) ((-1) :: (List.replicate m (0 : Fin p) ++ [1])) (by simp) nd2 (by
      intro y hy
      have key : y ^ (m + 1) = 1 := by
        obtain ⟨w, hw, rfl⟩ := List.mem_map.mp hy
        rcases List.mem_cons.mp hw with e | e
        · rw [e, ← pwm_ph, h, (fhom p).one]
        · obtain ⟨i, _, e2⟩ := List.mem_map.mp e
          rw [← e2, pwm_ph, ← pw_mul, Nat.mul_comm, pw_mul, rr.one, pw_one]
      show -1 + y * ev (List.replicate m (0 : Fin p) ++ [1]) y = 0
      rw [ev_last]
      have e3 : y * y ^ m = y ^ (m + 1) := by rw [pw_succ]; grind
      rw [e3, key]
      grind)
    have one0 : (1 : Fin p) = 0 := z 1 (List.mem_cons_of_mem _ (List.mem_append_right _ (List.mem_singleton.mpr rfl)))
    rw [← (fhom p).one] at one0
    have := ((fhom p).ne0 ⟨by omega, by omega⟩).mp one0
    omega
/-- the numbers to the size without a part in common with it -/
def freeL (n : Nat) : List Int := upTo n fun j => decide (Nat.gcd (1 + j) n = 1)
theorem free_powers {p : Nat} (G : Good p) {r : Int} {n : Nat} (r0 : 0 < r) (r1 : r < p) (o : Ord p r n) : ((freeL n).map fun k => pwm p r k.toNat).Perm (rootsL p n) := by
  have hp := G.two
  have hn := o.pos
  refine sorted_set ?_ ?_ fun x => ?_
  · refine List.pairwise_map.mpr ?_
    refine List.Pairwise.imp_of_mem ?_ (upTo_lt n _)
    intro a b ha hb lt e
    have h1 := upTo_mem.mp ha
    have h2 := upTo_mem.mp hb
    have q := pow_eq_mod hp o (by omega) e
    rw [Nat.mod_eq_of_lt (by omega)] at q
    omega
  · rw [rootsL_upTo]
    exact upTo_nodup _ _
  · rw [mem_roots G]
    constructor
    · intro h
      obtain ⟨k, hk, rfl⟩ := List.mem_map.mp h
      obtain ⟨h1, h2, h3⟩ := upTo_mem.mp hk
      rw [decide_eq_true_eq, show 1 + (k - 1).toNat = k.toNat by omega] at h3
      obtain ⟨b0, b1⟩ := pwm_pos G r0 r1 k.toNat
      exact ⟨b0, b1, (ord_pow hp o _).mpr h3⟩
    · rintro ⟨h1, h2, h3⟩
      obtain ⟨i, hi, rfl⟩ := all_powers G o (by omega) h2 h3.one
      have g := (ord_pow hp o i).mp h3
      by_cases c : i = 0
      · -- then the size is 1
        subst c
        rw [Nat.gcd_zero_left] at g
        subst g
        refine List.mem_map.mpr ⟨1, upTo_mem.mpr ⟨by omega, by omega, by decide⟩, ?_⟩
        show pwm p r 1 = pwm p r 0
        rw [pwm_zero hp]
        exact o.one
      · refine List.mem_map.mpr ⟨(i : Int), upTo_mem.mpr ⟨by omega, by omega, ?_⟩, by rw [Int.toNat_natCast]⟩
        rw [decide_eq_true_eq, show 1 + ((i : Int) - 1).toNat = i by omega]
        exact g
/-- the rests whose power by the size is 1 -/
def onesL (p n : Nat) : List Int := upTo (p - 1) fun j => decide (pwm p (1 + (j : Int)) n = 1)
theorem powers_ones {p : Nat} (G : Good p) {r : Int} {n : Nat} (r0 : 0 < r) (r1 : r < p) (o : Ord p r n) : ((List.range n).map (pwm p r)).Perm (onesL p n) := by
  have hp := G.two
  haveI : NeZero p := ⟨by omega⟩
  have rr := o.root (fhom p) hp
  refine sorted_set (pow_nodup hp o) (upTo_nodup _ _) fun x => ?_
  unfold onesL
  rw [upTo_mem]
  constructor
  · intro h
    obtain ⟨i, _, rfl⟩ := List.mem_map.mp h
    obtain ⟨b0, b1⟩ := pwm_pos G r0 r1 i
    refine ⟨b0, by omega, ?_⟩
    rw [decide_eq_true_eq, show (1 : Int) + (((pwm p r i - 1).toNat : Nat) : Int) = pwm p r i by omega]
    show pwm p r i ^ n % (p : Int) = 1
    rw [← (fhom p).is1 hp, (fhom p).pow, pwm_ph, ← pw_mul, Nat.mul_comm, pw_mul, rr.one, pw_one]
  · rintro ⟨h1, h2, h3⟩
    rw [decide_eq_true_eq, show (1 : Int) + (((x - 1).toNat : Nat) : Int) = x by omega] at h3
    obtain ⟨i, hi, e⟩ := all_powers G o (by omega) (by omega) h3
    exact List.mem_map.mpr ⟨i, List.mem_range.mpr hi, e.symm⟩
end Spm

namespace Spw
open PySem PySem.Spec PyProof.Rows L2 Spm
/-! What all defs share: lists of whole numbers, the field's object, tests that are known. -/
abbrev il (ns : List Int) : List V := ns.map V.int
def ff (p : Int) : List (Str × V) := putF "prime" (.int p) []
theorem ff_prime (p : Int) : (ff p).lookup ("prime" : Str) = some (.int p) := by
  unfold ff
  rw [lookup_putF, if_pos rfl]
theorem ff_no (p : Int) {m : Str} (h : ¬ m = "prime") : (ff p).lookup m = none := by
  unfold ff
  rw [lookup_putF, if_neg h]
  all_goals rfl
/-- a field by p stands at a -/
def FieldAt (C : Addr) (H : Hp) (a : Addr) (p : Int) : Prop := ∃ dx, H a = some (.ins C dx (ff p))
theorem FieldAt.same {C a : Addr} {H H' : Hp} {p : Int} (s : Same H H') (h : FieldAt C H a p) : FieldAt C H' a p := by
  obtain ⟨dx, e⟩ := h
  exact ⟨dx, s _ _ e⟩
theorem iteD {c : Prop} [Decidable c] {A B : Prop} (hc : c) (h : A) : if decide c = true then A else B := by
  rw [decide_eq_true hc, if_pos rfl]
  exact h
theorem iteDF {c : Prop} [Decidable c] {A B : Prop} (hc : ¬ c) (h : B) : if decide c = true then A else B := by
  rw [decide_eq_false hc, if_neg Bool.false_ne_true]
  exact h
theorem iteNF {c : Prop} [Decidable c] {A B : Prop} (hc : ¬ c) (h : A) : if (!decide c) = true then A else B := by
  rw [decide_eq_false hc]
  exact iteT h
theorem same_upd {H : Hp} {p : Addr} {o : HO} (h : H p = none) : Same H (upd H p o) := fun b x e => by
  rw [upd_ne (ne_of_none e h)]
  exact e
/-- a store to what is new -/
theorem _root_.L2.Same.over {H H' : Hp} {p : Addr} {o : HO} (s : Same H H') (h : H p = none) : Same H (upd H' p o) := fun b x e => by
  rw [upd_ne (ne_of_none e h)]
  exact s b x e
theorem sql {K : PySem.W.Frag} {H : Hp} {a : Addr} {xs : List V} (h : H a = some (.lst xs)) : SqL K H a xs := .inl (.inl h)
theorem sqt {K : PySem.W.Frag} {H : Hp} {a : Addr} {xs : List V} (h : H a = some (.tup xs)) : SqT K H a xs := .inl (.inl h)
/-- an item of a list of numbers -/
theorem il_at {ns : List Int} {i : Nat} {x : V} (h : (il ns)[i]? = some x) : ∃ z, ns[i]? = some z ∧ x = .int z := by
  unfold il at h
  rw [List.getElem?_map] at h
  cases e : ns[i]? with
  | none =>
    rw [e] at h
    cases h
  | some z =>
    rw [e] at h
    exact ⟨z, rfl, (Option.some.inj h).symm⟩
theorem at_il {ns : List Int} {i : Nat} {z : Int} (h : ns[i]? = some z) : (il ns)[i]? = some (.int z) := by
  unfold il
  rw [List.getElem?_map, h]
  rfl
theorem il_len {ns : List Int} : (il ns).length = ns.length := List.length_map ..
/-- what is promised: a whole number, a list of whole numbers that is new -/
def RInt (H : Hp) (Q : VK) (z : Int) : Prop := ∀ H', Same H H' → Q (.int z) H'
def RNon (H : Hp) (Q : VK) : Prop := ∀ H', Same H H' → Q .non H'
def RBl (H : Hp) (Q : VK) (b : Bool) : Prop := ∀ H', Same H H' → Q (.bl b) H'
def RLst (H : Hp) (Q : VK) (ns : List Int) : Prop := ∀ H' l, Same H H' → H l = none → H' l = some (.lst (il ns)) → Q (.ref l) H'
/-- rests by p -/
def Rests (p : Int) (ns : List Int) : Prop := ∀ x ∈ ns, 0 ≤ x ∧ x < p
theorem Rests.at_ {p : Int} {ns : List Int} (h : Rests p ns) {i : Nat} {z : Int} (e : ns[i]? = some z) : 0 ≤ z ∧ z < p := h z (List.mem_of_getElem? e)
end Spw
namespace Spw
open PySem PySem.Spec PyProof.Rows L2 Spm
/-- over a list from its end -/
theorem for_rev {K : PySem.W.Frag} {a : Addr} {xs : List V} {g : TG} {tb : TS} {D : Ends} {σ : L2.St} {H : Hp} (Pv : Nat → L2.St → Hp → Prop) (h0 : Pv 0 σ H) (hl : ∀ i σ H, i ≤ xs.length → Pv i σ H → SqL K H a xs)
    (hs : ∀ i x σ H, i < xs.length → xs[xs.length - 1 - i]? = some x → Pv i σ H → g x σ H fun σ2 H2 => tb { D with nx := Pv (i + 1), ct := Pv (i + 1), bk := D.nx } σ2 H2) (hd : ∀ σ H, Pv xs.length σ H → D.nx σ H) :
    ∃ W : Nat → Nat → L2.St → Hp → Prop, (∃ m, W 0 m σ H) ∧ ∀ i m σ H, W i m σ H →
      ((Itv K a xs.length).stop i H ∧ D.nx σ H) ∨ ((Itv K a xs.length).go i H ∧ ∃ N : L2.St → Hp → Prop, (∀ σ' H', N σ' H' → ∃ m', m' < m ∧ W (i + 1) m' σ' H') ∧ ∀ x H', (Itv K a xs.length).yld i H x H' → g x σ H' fun σ2 H2 => tb { D with nx := N, ct := N, bk := D.nx } σ2 H2) := by
  refine ⟨fun i m σ H => m = xs.length - i ∧ i ≤ xs.length ∧ Pv i σ H, ⟨xs.length, by simp, Nat.zero_le _, h0⟩, ?_⟩
  rintro i m σ H ⟨rfl, hi, p⟩
  have q := hl i σ H hi p
  by_cases hlt : i < xs.length
  · have hn : xs.length - 1 - i < xs.length := by omega
    refine .inr ⟨⟨hlt, xs, xs[xs.length - 1 - i], q, List.getElem?_eq_getElem hn⟩, Pv (i + 1), fun σ' H' p' => ⟨xs.length - (i + 1), by omega, rfl, hlt, p'⟩, fun x H' y => ?_⟩
    obtain ⟨e, y⟩ := y
    subst e
    exact hs i x σ _ hlt (y xs q) p
  · have e : i = xs.length := by omega
    subst e
    exact .inl ⟨Nat.le_refl _, hd σ H p⟩
/-- lists of whole numbers compared -/
theorem dp_il {K : PySem.W.Frag} {H : Hp} : ∀ ns : List Int, DpAll K H (il ns) (ns.map PyData.int)
  | [] => .nil
  | z :: ns => .cons (.int z) (dp_il ns)
theorem dp_ls {K : PySem.W.Frag} {H : Hp} {a : Addr} {ns : List Int} (h : SqL K H a (il ns)) : Dp K H (.ref a) (.list (ns.map PyData.int)) := .lst h (dp_il ns)
theorem eqv_all : ∀ ns ms : List Int, PyData.eqvAll (ns.map PyData.int) (ms.map PyData.int) = decide (ns = ms)
  | [], [] => by simp [PyData.eqvAll]
  | [], _ :: _ => by simp [PyData.eqvAll]
  | _ :: _, [] => by simp [PyData.eqvAll]
  | z :: ns, y :: ms => by
    have ih := eqv_all ns ms
    simp only [List.map_cons, PyData.eqvAll, PyData.eqv]
    rw [ih]
    by_cases h1 : z = y
    · subst h1; simp
    · simp [h1]
theorem eqv_il (ns ms : List Int) : PyData.eqv (.list (ns.map PyData.int)) (.list (ms.map PyData.int)) = decide (ns = ms) := by
  have e := eqv_all ns ms
  simp only [PyData.eqv]
  exact e
theorem lay_all : ∀ ns : List Int, PyData.canLayAll0 (ns.map PyData.int) = true ∧ PyData.depthAll (ns.map PyData.int) ≤ 1
  | [] => by simp [PyData.canLayAll0, PyData.depthAll]
  | z :: ns => by
    obtain ⟨h1, h2⟩ := lay_all ns
    simp only [List.map_cons, PyData.canLayAll0, PyData.depthAll, PyData.canLay0, PyData.depth, h1, Bool.and_self, true_and]
    omega
theorem shaped_all (ns : List Int) : SeqAt.shaped (.list (ns.map PyData.int)) = true := by
  obtain ⟨h1, h2⟩ := lay_all ns
  have e1 : PyData.canLay0 (.list (ns.map PyData.int)) = true := by simp only [PyData.canLay0]; exact h1
  have e2 : PyData.depth (.list (ns.map PyData.int)) ≤ 64 := by
    simp only [PyData.depth]
    exact Nat.le_trans (Nat.add_le_add_right h2 1) (by decide)
  unfold SeqAt.shaped
  rw [e1, decide_eq_true e2]
  rfl
end Spw
namespace Spw
open PySem PySem.Spec PyProof.Rows L2 Spm
theorem line_le {n : Nat} (h : n ≤ 1000) : n ≤ sizeLine := Nat.le_of_lt (small1000 h)
theorem le1 (v : V) : [v].length ≤ sizeLine := line_le (by show 1 ≤ 1000; decide)
theorem le2 (v u : V) : [v, u].length ≤ sizeLine := line_le (by show 2 ≤ 1000; decide)
end Spw
namespace Spw
open PySem PySem.Spec PyProof.Rows L2 Spm
/-- a comprehension without a test -/
theorem lcYes {F Z : Hp → Prop} {σ : L2.St} {H : Hp} (h : F H) : tYes σ H (fun b H3 => if b = true then F H3 else Z H3) := by
  show if true = true then F H else Z H
  rw [if_pos rfl]
  exact h
end Spw
namespace Spw
open PySem PySem.Spec PyProof.Rows L2 Spm
theorem line_le' {n : Nat} (h : n ≤ 2000) : n ≤ sizeLine := Nat.le_trans h (by decide)
theorem ixN_nat' {n j : Nat} (hj : j < n) : ixN n (j : Int) = some j := by
  unfold ixN
  rw [if_pos (by omega), if_pos (by omega)]
  simp
end Spw
namespace Spw
open PySem PySem.Spec PyProof.Rows L2 Spm
/-! the rules that speak of the written part, for a block within a def -/
section
variable {X : Cx} {K : PySem.W.Frag} {e : Expr} {f : Str} {pos : Pos} {ta : TE}
theorem pe_fldK (hK : X.K = K) (he : PE X e ta) (hb : attributeBase e f X.env (eval e X.env) = eval e X.env) : PE X (.Attribute e f pos) (tFld K ta f) := by
  subst hK
  exact pe_fld he hb
theorem ix_listK (hK : X.K = K) : IxR X (rIxL K) := by
  subst hK
  exact ix_list
theorem ix_tupK (hK : X.K = K) : IxR X (rIxT K) := by
  subst hK
  exact ix_tup
theorem call_len_seqK (hK : X.K = K) : CallR X (.builtin "len") (fun xs H Q => ∃ p ys, xs = [.ref p] ∧ (SqL K H p ys ∨ SqT K H p ys) ∧ Q (.int ys.length) H) := by
  subst hK
  exact call_len_seq
end
end Spw
namespace Spw
open PySem PySem.Spec PyProof.Rows L2 Spm
/-- a field made -/
theorem made_same {H : Hp} {x dx C : Addr} {p : Int} (nx : H x = none) (nd : H dx = none) : Same H (upd (upd (upd H dx (.own x)) x (.ins C dx [])) x (.ins C dx (ff p))) := fun b o e => by
  rw [upd_ne (ne_of_none e nx), upd_ne (ne_of_none e nx), upd_ne (ne_of_none e nd)]
  exact e
end Spw
namespace Spw
open PySem PySem.Spec PyProof.Rows L2 Spm
theorem le3 (v u w : V) : [v, u, w].length ≤ sizeLine := line_le (by show 3 ≤ 1000; decide)
end Spw
namespace Spw
open PySem PySem.Spec PyProof.Rows L2 Spm
/-- [number for x in range(..)]: the numbers f 0, f 1, .. -/
theorem lc_rng {lo : Int} {n i : Nat} {te : TE} {vs : List Nat} {σ : L2.St} {H1 : Hp} {D : Addr} {Qd : Hp → Prop} (f : Nat → Int) (hn : n ≤ 1000) (nD : H1 D = none)
    (step : ∀ (j : Nat) (H2 : Hp), j < n → Same H1 H2 → ∀ R : VK, (∀ H4, Same H2 H4 → R (.int (f j)) H4) → te ((wipe σ vs).set i (some (.int (lo + j)))) H2 R)
    (hd : ∀ H', Same H1 H' → H' D = some (.lst (il ((List.range n).map f))) → Qd H')
    (hw : ∀ x : V, wipe ((wipe σ vs).set i (some x)) vs = wipe σ vs := by intro _; rfl) :
    ∃ W : Nat → Nat → Hp → Prop, (∃ m, W 0 m (upd H1 D (.lst []))) ∧ ∀ i' m H, W i' m H →
      ((Itr lo n).stop i' H ∧ Qd H) ∨ ((Itr lo n).go i' H ∧ ∃ Nx : Hp → Prop, (∀ H', Nx H' → ∃ m', m' < m ∧ W (i' + 1) m' H') ∧ ∀ x H', (Itr lo n).yld i' H x H' → gName i x (wipe σ vs) H' fun σ2 H2 => wipe σ2 vs = wipe σ vs ∧ tYes σ2 H2 fun b H3 =>
        if b = true then te σ2 H3 fun y H4 => ∃ acc, H4 D = some (.lst acc) ∧ acc.length < sizeLine ∧ Nx (upd H4 D (.lst (acc ++ [y]))) else Nx H3) := by
  refine lc_range (lo := lo) (n := n) (fun i' H' => Same H1 H' ∧ H' D = some (.lst (il ((List.range i').map f)))) ⟨same_upd nD, upd_same⟩ ?_ ?_
  · rintro j H2 hj ⟨s2, hD⟩
    refine ⟨hw _, lcYes ?_⟩
    refine step j H2 hj s2 _ fun H4 s4 => ?_
    refine ⟨_, s4 _ _ hD, ?_, (s2.trans s4).over nD, ?_⟩
    · rw [il_len, List.length_map, List.length_range]
      exact small1000 (by omega)
    · rw [upd_same, List.range_succ]
      unfold il
      rw [List.map_append, List.map_append]
      rfl
  · rintro H' ⟨s, hD⟩
    exact hd H' s hD
end Spw
namespace Spw
open PySem PySem.Spec PyProof.Rows L2 Spm
theorem sIx_neg (n d : Nat) : HT.sIx n d (some (-1)) = n - 1 := by
  show (if (-1 : Int) < 0 then ((-1 : Int) + (n : Int)).toNat else min (-1 : Int).toNat n) = n - 1
  rw [if_pos (by decide)]
  omega
theorem cut_last (A : List Int) : cutV (il A) (some (-1)) none = il (A.drop (A.length - 1)) := by
  unfold cutV
  rw [sIx_neg, HT.sIx_none, il_len]
  unfold il
  rw [← List.map_drop, ← List.map_take, List.take_of_length_le (by rw [List.length_drop]; omega)]
theorem cut_init (A : List Int) : cutV (il A) none (some (-1)) = il (A.take (A.length - 1)) := by
  unfold cutV
  rw [sIx_neg, HT.sIx_none, il_len, Nat.sub_zero, List.drop_zero]
  unfold il
  rw [← List.map_take]
theorem rep_il (z : Int) : ∀ n : Nat, (List.replicate n [V.int z]).flatten = il (List.replicate n z)
  | 0 => rfl
  | n + 1 => by
    rw [List.replicate_succ, List.flatten_cons, rep_il z n, List.replicate_succ]
    rfl
end Spw
namespace Spw
open PySem PySem.Spec PyProof.Rows L2 Spm
/-- two ways that go on alike -/
theorem share {X : Prop} {G : Nat → Hp → Prop} (Pre : Nat → Hp → Prop) (a : (∀ n H2, Pre n H2 → G n H2) → X) (b : ∀ n H2, Pre n H2 → G n H2) : X := a b
end Spw
namespace Spw
open PySem PySem.Spec PyProof.Rows L2 Spm
/-- a list of two lists of whole numbers -/
def two (A B : List Int) : PyData := .list [.list (A.map PyData.int), .list (B.map PyData.int)]
theorem dp_two {K : PySem.W.Frag} {H : Hp} {a l m : Addr} {A B : List Int} (h : SqL K H a [.ref l, .ref m]) (hl : SqL K H l (il A)) (hm : SqL K H m (il B)) : Dp K H (.ref a) (two A B) :=
  .lst h (.cons (dp_ls hl) (.cons (dp_ls hm) .nil))
theorem lay_two (A B : List Int) : PyData.canLay0 (two A B) = true := by
  unfold two
  simp only [PyData.canLay0, PyData.canLayAll0, (lay_all A).1, (lay_all B).1, Bool.and_self]
theorem shaped_two (A B : List Int) : SeqAt.shaped (two A B) = true := by
  have e2 : PyData.depth (two A B) ≤ 64 := by
    unfold two
    simp only [PyData.depth, PyData.depthAll]
    have a := (lay_all A).2
    have b := (lay_all B).2
    refine Nat.le_trans (m := 3) ?_ (by decide)
    refine Nat.succ_le_succ (Nat.max_le.mpr ⟨Nat.succ_le_succ a, Nat.max_le.mpr ⟨Nat.succ_le_succ b, Nat.zero_le _⟩⟩)
  unfold SeqAt.shaped
  rw [lay_two, decide_eq_true e2]
  rfl
theorem eqv_two (A B : List Int) : PyData.eqv (two A B) (two A B) = true := by
  unfold two
  simp only [PyData.eqv, PyData.eqvAll]
  have a := eqv_all A A
  have b := eqv_all B B
  rw [decide_eq_true rfl] at a b
  simp only [a, b, Bool.and_self]
end Spw
namespace Spw
open PySem PySem.Spec PyProof.Rows L2 Spm
/-- a list at l of pairs of whole numbers, the pairs' tuples at as -/
structure PtsAt (K : PySem.W.Frag) (H : Hp) (l : Addr) (as : List Addr) (pts : List (Int × Int)) : Prop where
  lst : SqL K H l (as.map V.ref)
  len : as.length = pts.length
  at_ : ∀ (i : Nat) (t : Addr), as[i]? = some t → ∃ q, pts[i]? = some q ∧ SqT K H t [.int q.1, .int q.2]
theorem Same.sqt' {K : PySem.W.Frag} {H H' : Hp} {a : Addr} {xs : List V} (e : Same H H') (h : SqT K H a xs) : SqT K H' a xs := by
  rcases h with (h | ⟨o, h⟩) | h
  · exact .inl (.inl (e _ _ h))
  · exact .inl (.inr ⟨o, e _ _ h⟩)
  · exact .inr h
theorem PtsAt.same {K : PySem.W.Frag} {H H' : Hp} {l : Addr} {as : List Addr} {pts : List (Int × Int)} (s : Same H H') (P : PtsAt K H l as pts) : PtsAt K H' l as pts :=
  ⟨s.seq P.lst, P.len, fun i t h => by
    obtain ⟨q, a, b⟩ := P.at_ i t h
    exact ⟨q, a, Same.sqt' s b⟩⟩
theorem ref_at {as : List Addr} {i : Nat} {x : V} (h : (as.map V.ref)[i]? = some x) : ∃ t, as[i]? = some t ∧ x = .ref t := by
  rw [List.getElem?_map] at h
  cases e : as[i]? with
  | none =>
    rw [e] at h
    cases h
  | some t =>
    rw [e] at h
    exact ⟨t, rfl, (Option.some.inj h).symm⟩
end Spw
namespace Spw
open PySem PySem.Spec PyProof.Rows L2 Spm
/-- the same, each tracked -/
structure PtsT (H : Hp) (l : Addr) (as : List Addr) (pts : List (Int × Int)) : Prop where
  lst : H l = some (.lst (as.map V.ref))
  len : as.length = pts.length
  at_ : ∀ (i : Nat) (t : Addr), as[i]? = some t → ∃ q, pts[i]? = some q ∧ H t = some (.tup [.int q.1, .int q.2])
theorem PtsT.at {K : PySem.W.Frag} {H : Hp} {l : Addr} {as : List Addr} {pts : List (Int × Int)} (P : PtsT H l as pts) : PtsAt K H l as pts :=
  ⟨sql P.lst, P.len, fun i t h => by
    obtain ⟨q, a, b⟩ := P.at_ i t h
    exact ⟨q, a, sqt b⟩⟩
theorem PtsT.same {H H' : Hp} {l : Addr} {as : List Addr} {pts : List (Int × Int)} (s : Same H H') (P : PtsT H l as pts) : PtsT H' l as pts :=
  ⟨s _ _ P.lst, P.len, fun i t h => by
    obtain ⟨q, a, b⟩ := P.at_ i t h
    exact ⟨q, a, s _ _ b⟩⟩
theorem PtsT.nil {H : Hp} {l : Addr} (h : H l = some (.lst [])) : PtsT H l [] [] := ⟨h, rfl, fun i t h => by simp at h⟩
/-- one pair more -/
theorem PtsT.push {H : Hp} {l t : Addr} {as : List Addr} {pts : List (Int × Int)} {x y : Int} (P : PtsT H l as pts) (ht : H t = some (.tup [.int x, .int y])) :
    PtsT (upd H l (.lst (as.map V.ref ++ [.ref t]))) l (as ++ [t]) (pts ++ [(x, y)]) := by
  have tl : ∀ u xs, H u = some (.tup xs) → u ≠ l := fun u xs h => ne_of h P.lst (by intro z; cases z)
  refine ⟨by rw [upd_same, List.map_append]; rfl, by rw [List.length_append, List.length_append, P.len]; rfl, fun i u h => ?_⟩
  by_cases c : i < as.length
  · rw [List.getElem?_append_left c] at h
    obtain ⟨q, a, b⟩ := P.at_ i u h
    exact ⟨q, by rw [List.getElem?_append_left (by rw [← P.len]; exact c)]; exact a, by rw [upd_ne (tl _ _ b)]; exact b⟩
  · rw [List.getElem?_append_right (by omega)] at h
    have e : i - as.length = 0 := by
      by_cases z : i - as.length = 0
      · exact z
      · rw [List.getElem?_eq_none (by show 1 ≤ _; omega)] at h
        cases h
    rw [e] at h
    have e2 : t = u := Option.some.inj h
    subst e2
    refine ⟨(x, y), ?_, by rw [upd_ne (tl _ _ ht)]; exact ht⟩
    rw [List.getElem?_append_right (by rw [← P.len]; omega), ← P.len, e]
    rfl
end Spw
namespace Spw
open PySem PySem.Spec PyProof.Rows L2 Spm
/-- two ways that go on alike, with two addresses -/
theorem share3 {X : Prop} {G : Addr → Addr → Hp → Prop} (Pre : Addr → Addr → Hp → Prop) (a : (∀ l m H2, Pre l m H2 → G l m H2) → X) (b : ∀ l m H2, Pre l m H2 → G l m H2) : X := a b
end Spw
namespace Spw
open PySem PySem.Spec PyProof.Rows L2 Spm
theorem inV_il (x : Int) (l : List Int) : inV (.int x) (il l) = decide (x ∈ l) := by
  unfold inV il
  induction l with
  | nil => simp
  | cons y l ih =>
    rw [List.map_cons, List.any_cons, ih]
    show ((y == x) || decide (x ∈ l)) = decide (x ∈ y :: l)
    by_cases c : y = x
    · subst c; simp
    · have c2 : ¬ x = y := fun z => c z.symm
      simp [c, c2]
theorem flat_il (l : List Int) : (il l).all flatV = true := by
  unfold il
  induction l with
  | nil => rfl
  | cons y l ih => rw [List.map_cons, List.all_cons, ih]; rfl
/-- a list at l of pairs, by their tuples' places -/
structure PtsZ (H : Hp) (l : Addr) (zs : List (Addr × Int × Int)) : Prop where
  lst : H l = some (.lst ((zs.map (·.1)).map V.ref))
  at_ : ∀ z ∈ zs, H z.1 = some (.tup [.int z.2.1, .int z.2.2])
theorem PtsZ.at {K : PySem.W.Frag} {H : Hp} {l : Addr} {zs : List (Addr × Int × Int)} (P : PtsZ H l zs) : PtsAt K H l (zs.map (·.1)) (zs.map (·.2)) :=
  ⟨sql P.lst, by rw [List.length_map, List.length_map], fun i t h => by
    rw [List.getElem?_map] at h
    cases e : zs[i]? with
    | none =>
      rw [e] at h
      cases h
    | some z =>
      rw [e] at h
      have e2 : z.1 = t := Option.some.inj h
      subst e2
      exact ⟨z.2, by rw [List.getElem?_map, e]; rfl, sqt (P.at_ z (List.mem_of_getElem? e))⟩⟩
theorem PtsZ.same {H H' : Hp} {l : Addr} {zs : List (Addr × Int × Int)} (s : Same H H') (P : PtsZ H l zs) : PtsZ H' l zs :=
  ⟨s _ _ P.lst, fun z h => s _ _ (P.at_ z h)⟩
theorem PtsZ.push {H : Hp} {l t : Addr} {zs : List (Addr × Int × Int)} {x y : Int} (P : PtsZ H l zs) (ht : H t = some (.tup [.int x, .int y])) :
    PtsZ (upd H l (.lst ((zs.map (·.1)).map V.ref ++ [.ref t]))) l (zs ++ [(t, x, y)]) := by
  have tl : ∀ u xs, H u = some (.tup xs) → u ≠ l := fun u xs h => ne_of h P.lst (by intro z; cases z)
  refine ⟨by rw [upd_same, List.map_append, List.map_append]; rfl, fun z hz => ?_⟩
  rcases List.mem_append.mp hz with h | h
  · rw [upd_ne (tl _ _ (P.at_ z h))]
    exact P.at_ z h
  · rw [List.mem_singleton.mp h, upd_ne (tl _ _ ht)]
    exact ht
/-- the same pairs in another list -/
theorem PtsZ.other {H : Hp} {l m : Addr} {zs ys : List (Addr × Int × Int)} (P : PtsZ H l zs) (h : ∀ y ∈ ys, y ∈ zs) (hm : H m = some (.lst ((ys.map (·.1)).map V.ref))) : PtsZ H m ys :=
  ⟨hm, fun z hz => P.at_ z (h z hz)⟩
/-- pairs compared -/
def datZ (zs : List (Addr × Int × Int)) : List PyData := zs.map fun z => .tuple [.int z.2.1, .int z.2.2]
theorem dp_z {K : PySem.W.Frag} {H : Hp} : ∀ zs : List (Addr × Int × Int), (∀ z ∈ zs, H z.1 = some (.tup [.int z.2.1, .int z.2.2])) → DpAll K H ((zs.map (·.1)).map V.ref) (datZ zs)
  | [], _ => .nil
  | z :: zs, h => .cons (.tup (sqt (h z (List.mem_cons_self ..))) (.cons (.int _) (.cons (.int _) .nil))) (dp_z zs fun y hy => h y (List.mem_cons_of_mem _ hy))
theorem layz : ∀ zs : List (Addr × Int × Int), PyData.canLayAll0 (datZ zs) = true ∧ PyData.depthAll (datZ zs) ≤ 2
  | [] => by simp [datZ, PyData.canLayAll0, PyData.depthAll]
  | z :: zs => by
    obtain ⟨h1, h2⟩ := layz zs
    unfold datZ at h1 h2
    simp only [datZ, List.map_cons, PyData.canLayAll0, PyData.depthAll, PyData.canLay0, PyData.depth, h1, Bool.and_self, true_and]
    omega
theorem shaped_z (zs : List (Addr × Int × Int)) : SeqAt.shaped (.list (datZ zs)) = true ∧ PyData.eqv (.list (datZ zs)) (.list (datZ zs)) = true := by
  obtain ⟨h1, h2⟩ := layz zs
  have e1 : PyData.canLay0 (.list (datZ zs)) = true := by simp only [PyData.canLay0]; exact h1
  have e2 : PyData.depth (.list (datZ zs)) ≤ 64 := by
    simp only [PyData.depth]
    exact Nat.le_trans (Nat.add_le_add_right h2 1) (by decide)
  refine ⟨?_, SeqAt.eqv_refl _ e1⟩
  unfold SeqAt.shaped
  rw [e1, decide_eq_true e2]
  rfl
theorem cut_from {xs : List V} {s : Nat} (h : s ≤ xs.length) : cutV xs (some (s : Int)) none = xs.drop s := by
  unfold cutV
  rw [HT.sIx_nat, HT.sIx_none, Nat.min_eq_left h, List.take_of_length_le (by rw [List.length_drop]; exact Nat.le_refl _)]
theorem cut_to {xs : List V} {s : Nat} (h : s ≤ xs.length) : cutV xs none (some (s : Int)) = xs.take s := by
  unfold cutV
  rw [HT.sIx_nat, HT.sIx_none, Nat.min_eq_left h, Nat.sub_zero, List.drop_zero]
end Spw

/-! len(set(xs)), xs any list of whole numbers: how many unlike ones. -/
namespace SetD
open PySem PySem.Spec PyProof.Rows L2
/-- each number where it comes first -/
def once (l : List Int) : List Int := l.foldl step_dedup []
theorem once_met (l : List Int) : firstMet (fun i => l.getD i 0) l.length = once l := by
  unfold firstMet once
  have e : (List.range l.length).map (fun i => l.getD i 0) = l := by
    refine List.ext_getElem (by rw [List.length_map, List.length_range]) fun i a b => ?_
    rw [List.getElem_map, List.getElem_range, List.getD_eq_getElem?_getD, List.getElem?_eq_getElem b]
    rfl
  rw [e]
theorem step_old {l : List Int} {x : Int} (h : x ∈ l) : step_dedup l x = l := by
  have e : (l.any fun y => y == x) = true := List.any_eq_true.mpr ⟨x, h, beq_self_eq_true x⟩
  unfold step_dedup
  rw [if_pos e]
theorem step_new {l : List Int} {x : Int} (h : x ∉ l) : step_dedup l x = l ++ [x] := by
  unfold step_dedup
  rw [if_neg]
  intro q
  obtain ⟨y, hy, e⟩ := List.any_eq_true.mp q
  have e2 : y = x := eq_of_beq e
  exact h (e2 ▸ hy)
theorem fold_nodup : ∀ (l acc : List Int), (acc ++ l).Nodup → l.foldl step_dedup acc = acc ++ l
  | [], acc, _ => (List.append_nil acc).symm
  | x :: l, acc, h => by
    have n : x ∉ acc := fun q => by
      have d := (List.nodup_append.mp h).2.2 x q x (List.mem_cons_self ..)
      exact d rfl
    have e : acc ++ x :: l = acc ++ [x] ++ l := by rw [List.append_assoc]; rfl
    rw [List.foldl_cons, step_new n, fold_nodup l (acc ++ [x]) (by rw [← e]; exact h), ← e]
/-- a list without repeats, and one of its numbers again -/
theorem once_again {l : List Int} {x : Int} (h : l.Nodup) (hx : x ∈ l) : once (l ++ [x]) = l := by
  unfold once
  rw [List.foldl_append, fold_nodup l [] h]
  exact step_old hx
theorem vals_ints : ∀ {ns : List Int} {us : List Value}, Vals (ns.map V.int) us → IntsAre us ns
  | [], _, .nil => .nil
  | n :: ns, _, .cons r t => by
    obtain ⟨k, rfl⟩ := r
    exact .cons n k (vals_ints t)
def tLenSetD (K : PySem.W.Frag) (ta : TE) : TE := fun σ H Q => ta σ H fun x H1 => ∃ (l : Addr) (ns : List Int),
  x = .ref l ∧ SqL K H1 l (ns.map V.int) ∧ ns.length ≤ 4000 ∧ Q (.int ((once ns).length : Nat)) H1
theorem once_len (ns : List Int) : (once ns).length ≤ ns.length := by
  rw [← once_met]
  exact firstMet_length_le _ _
theorem pe_lenSetD {X : Cx} {a : Expr} {ta : TE} {p p2 q pos : Pos} (hg : Gl X "len") (hm : X.mg "len" = none) (hg2 : Gl X "set") (hm2 : X.mg "set" = none) (ha : PE X a ta)
    (hc : X.calm = true := by rfl) (na : starEach [a] X.env = (false, eval a X.env) :: starEach [] X.env := by rfl) :
    PE X (.Call (.Name "len" p) [.Call (.Name "set" p2) [a] [] q] [] pos) (tLenSetD X.K ta) := by
  constructor
  intro pins s σ H Q I h
  refine Call_ ?_
  refine ld_blt I hg hm boot_len ?_
  refine callWith_builtin1 ?_ rfl rfl
  refine args_cons ?_ rfl
  refine Call_ ?_
  refine ld_blt I hg2 hm2 boot_set ?_
  refine callWith_type1 ?_ na rfl
  refine args_cons ?_ na
  refine thn (ha.run pins s σ H _ I h) ?_
  rintro v s1 ⟨x, H1, I1, r1, l, ns, rfl, hq, hl, q1⟩
  refine args_nil ?_
  cases r1
  obtain ⟨its, rv, pl, hz⟩ := I1.list hq
  have size : its.toArray.size = ns.length := by
    rw [List.size_toArray, ← rv.length, List.length_map]
  refine call_set_list (ns := ns) (I1.ok.hd hc) pl.isList ?_ ?_ ?_
  · simpa using vals_ints rv
  · rw [size]
    unfold scanBound
    omega
  · intro h' tk made kept
    refine args_nil ?_
    rw [size, once_met] at made
    obtain ⟨o, es, ep, t, at', ex, data, _, _, _, full, num⟩ := made
    have I2 : Inv X pins σ H1 { s1 with heap := h', toks := tk } := I1.kept fun b o e => kept b o (Heap.lt_size e) e
    have few := once_len ns
    refine call_len_set at' ex data full (by rw [num] <;> omega) ?_
    exact ⟨.int ((once ns).length : Nat), H1, I2.tok _, ⟨_, by rw [num]⟩, q1⟩
end SetD

/-! Calls that may raise, within a try: a class, a method. -/
namespace Spw
open PySem PySem.Spec PyProof.Rows L2 Spm
/-- where the classes of the refusals lie: NoPrime, NoRest, NoRow, NoRoot, SpinError -/
structure Exs where
  P : Addr
  R : Addr
  W : Addr
  Z : Addr
  S : Addr
/-- what the written part says of a class of refusals -/
structure Exc (K : PySem.W.Frag) (mg : Str → Option Value) (x : Str) (C S : Addr) : Prop where
  g : mg x = some (.ref C)
  k : PySem.W.keepIn K (.ref C) = true
  q : PySem.W.excIn K C [.type "ValueError", .type "Exception", .type "BaseException", .type "object"] "ValueError.__new__" = true
  s : PySem.W.subIn K (.ref C) (.type "BaseException") = some true
  t : PySem.W.typeIn K (.ref C) = some (.type "type")
  e : PySem.W.exmOne K (.ref C) (.ref S) = some true
  c : ExcC K C
section
variable {X : Cx} {CX : CXT} {k : Nat} {f C : Addr} {fd : FuncData} {ps : List Str} {sp : Sp} {E : L2.St → XK} {x m : Str} {p pos apos : Pos} {e o : Expr} {es : List Expr} {ta : TE} {t : TA}
theorem run_makeS {pins : List (Addr × Obj)} {σ : L2.St} {H : Hp} {s : Shared} {Q : VK} {us : List Value} {vs : List V} (M : Mk X.K C f) (F : FnOk X.prog X.w X.K X.mg X.base CX k f fd ps sp) (hr : Room (k + 1) X.A) (hb : Binds X.K fd ps [])
    (hx : PassesAt CX X σ (E σ)) (I : Inv X pins σ H s) (r : Vals vs us)
    (h : ∀ x dx, H x = none → H dx = none → dx ≠ x → sp (.ref x :: vs) (upd (upd H dx (.own x)) x (.ins C dx [])) (fun v H2 => v = .non ∧ Q (.ref x) H2) (E σ)) :
    wpAny (model X.prog X.w) X.A (call (.ref C) us) (EP X pins σ Q) X.xe s := by
  have hq := h (s.heap.objs.size + 1) s.heap.objs.size (I.hok.fresh (Nat.le_succ _)) (I.hok.fresh (Nat.le_refl _)) (Nat.ne_of_lt (Nat.lt_succ_self _))
  have I2 := Inv.made (C := C) I
  have r2 : Vals (V.ref (s.heap.objs.size + 1) :: vs) (Value.ref (s.heap.objs.size + 1) :: us) := .cons rfl r
  have hl : ((Value.ref (s.heap.objs.size + 1) :: us) ++ []).length = ps.length := by
    rw [List.append_nil]
    have e := r2.length
    rw [F.len _ _ _ _ hq] at e
    exact e.symm
  have b := hb _ (Value.ref (s.heap.objs.size + 1) :: us) I2.kIn hl
  rw [List.append_nil] at b
  refine wpAny_call (make_map (f := f) I.kIn M.makes M.init (beq_iff_eq.mp M.fn) (codeAny_mono (F.run _ X.stack _ _ ⟨Value.ref (s.heap.objs.size + 1) :: us, []⟩ (Value.ref (s.heap.objs.size + 1) :: us) _ _ (E σ) (hr.make C us [])
    (I2.env0.make C us []) b r2 hq) fun r s' hq' => ?_))
  cases r with
  | error e => exact hx pins _ _ e s' I2 hq'
  | ok fl =>
    cases fl with
    | ret u =>
      obtain ⟨v, H', I3, rv, ev, q3⟩ := I2.after hq'
      subst ev
      exact ⟨rv, ⟨V.ref (s.heap.objs.size + 1), H', I3, rfl, q3⟩⟩
    | next => exact False.elim hq'
    | brk => exact False.elim hq'
    | cont => exact False.elim hq'
/-- C(..), within a try: its __init__ may raise -/
def tMakeS (C : Addr) (sp : Sp) (E : L2.St → XK) (t : TA) : TE := fun σ H Q => t σ H fun vs H1 => ∀ x dx, H1 x = none → H1 dx = none → dx ≠ x →
  sp (.ref x :: vs) (upd (upd H1 dx (.own x)) x (.ins C dx [])) (fun v H2 => v = .non ∧ Q (.ref x) H2) (E σ)
theorem pe_makeS (M : Mk X.K C f) (F : FnOk X.prog X.w X.K X.mg X.base CX k f fd ps sp) (hr : Room (k + 1) X.A) (hg : Gl X x) (hm : X.mg x = some (.ref C)) (hb : Binds X.K fd ps []) (hx : ∀ σ, PassesAt CX X σ (E σ))
    (ha : PA X (e :: es) t) (hdb : (x == ("__debug__" : Str)) = false := by decide) (he : starEach (e :: es) X.env = (false, eval e X.env) :: starEach es X.env := by rfl) (hpl : (backTo pos (starEach es X.env)).any (·.1) = false := by rfl) :
    PE X (.Call (.Name x p) (e :: es) [] pos) (tMakeS C sp E t) := by
  refine ⟨fun pins s σ H Q I h => ?_⟩
  refine wpAny_Call_Name_kw (ld_glob I hg hm ?_ hdb)
  refine PySem.W.callWith_K (h₀ := X.base) I.ok.mod.kin M.kp (thn (ha.run pos pins s σ H _ I h) fun us s1 ⟨vs, H1, I1, r, q⟩ => ⟨I1.kIn, ?_⟩) he hpl
  exact run_makeS M F hr hb (hx σ) I1 r q
/-- o.m(e, ..), within a try -/
def tMethS (C : Addr) (m : Str) (sp : Sp) (E : L2.St → XK) (ta : TE) (t : TA) : TE := fun σ H Q => ta σ H fun x H1 => ∃ a dx fs, x = .ref a ∧ H1 a = some (.ins C dx fs) ∧ fs.lookup m = none ∧
  t σ H1 fun vs H2 => sp (x :: vs) H2 Q (E σ)
theorem pe_methS {pl : Sem Bool} (he : PE X o ta) (c : Cls X.K C) (hm : Meth X.K C m f) (F : FnOk X.prog X.w X.K X.mg X.base CX k f fd ps sp) (hr : Room k X.A) (hb : Binds X.K fd ps []) (hx : ∀ σ, PassesAt CX X σ (E σ)) (ha : PA X (e :: es) t)
    (hst : starEach (e :: es) X.env = (false, eval e X.env) :: starEach es X.env := by rfl) (hpl : (backTo pos (starEach es X.env)).any (·.1) = false := by rfl)
    (ht : eval (.Call (.Attribute o m apos) (e :: es) [] pos) X.env = (do
      let ov ← eval o X.env
      standAt apos.atName
      let (f, first) ← holding [ov] (getMethod ov m pl)
      callWith pos f first (backTo pos (starEach (e :: es) X.env)) (backToKw pos (keywordEach [] X.env))) := by rfl) :
    PE X (.Call (.Attribute o m apos) (e :: es) [] pos) (tMethS C m sp E ta t) := by
  refine ⟨fun pins s σ H Q I h => ?_⟩
  refine PySem.W.methodCall_KW (pl := pl) (thn (he.run pins s σ H _ I h) fun u s1 ⟨x, H1, I1, rx, a, dx, fs, ex, ea, l, q⟩ => ?_) ht
  subst ex
  obtain rfl : u = Value.ref a := rx
  refine getmeth_ok I1 ea c hm l ?_
  refine PySem.W.callWith_K (first := [.ref a]) (h₀ := X.base) I.ok.mod.kin hm.kp (thn (ha.run pos pins s1 σ H1 _ I1 q) fun us s2 ⟨vs, H2, I2, r, q2⟩ => ⟨I2.kIn, ?_⟩) hst hpl
  exact run_fnS (us := .ref a :: us) (vs := .ref a :: vs) F hr hb (hx σ) I2 (.cons rfl r) q2
/-- isinstance(e, c), e the refusal that the suite holds at a -/
def rIsX (K : PySem.W.Frag) (a : Addr) (cls : Value) (d : Option Addr) : List V → Hp → VK → Prop := fun xs H Q => ∃ (D : Addr) (c : V) (cv : Value) (b : Bool), cls = .ref D ∧ d = none ∧ ExcC K D ∧ xs = [.ref a, c] ∧ (∀ u, RelV c u → u = cv) ∧ PySem.W.kitOne K (.ref D) cv = some b ∧ Q (.bl b) H
theorem call_isX {X : Cx} {K : PySem.W.Frag} {a : Addr} {oe : Obj} {cls : Value} {d : Option Addr} {pn : List (Addr × Obj)} (hK : X.K = K) (hz : Zc cls d oe) (hf : ∃ vs, oe.data = .fields vs) : CallR (X.suite a ((a, oe) :: pn)) (.builtin "isinstance") (rIsX K a cls d) := by
  intro pins s σ H xs us Q I r h
  obtain ⟨D, c, cv, b, rfl, rfl, C, rest⟩ := h
  subst hK
  exact call_isE C hz hf pins s σ H xs us Q I r ⟨c, cv, b, rest⟩
end
end Spw
namespace Spw
open PySem PySem.Spec PyProof.Rows L2 Spm
theorem shareN {G : Prop} {R : Int → Option V → Hp → Prop} {H : Hp} (b : (∀ (n : Int) (far : Option V) (H1 : Hp), Same H H1 → R n far H1) → G) (main : ∀ (n : Int) (far : Option V) (H1 : Hp), Same H H1 → R n far H1) : G := b main
end Spw
namespace Spw
open PySem PySem.Spec PyProof.Rows L2 Spm
theorem shareG {G : Prop} {R : Bool → Hp → Prop} {H : Hp} {Z : Prop} (b : (∀ (g : Bool) (H1 : Hp), Same H H1 → (g = true ↔ Z) → R g H1) → G) (main : ∀ (g : Bool) (H1 : Hp), Same H H1 → (g = true ↔ Z) → R g H1) : G := b main
end Spw

/-! A def that is called within a suite and asks the caught refusal of its class. -/
namespace Spw
open PySem PySem.Spec PyProof.Rows L2 L2H Spm
structure FnW (P : Program) (w : World) (K : PySem.W.Frag) (mg : Str → Option Value) (base : Heap) (k : Nat) (f : Addr) (fd : FuncData) (ps : List Str) (sp : Addr → Value → Option Addr → Sp) : Prop where
  len : ∀ a cls d vs H Q E, sp a cls d vs H Q E → vs.length = ps.length
  run : ∀ (A : Around) (outer : List Env) (s : Shared) (H : Hp) (args : Args) (us : List Value) (vs : List V) (Q : VK) (E : XK) (a : Addr) (oe : Obj) (cls : Value) (d : Option Addr), RoomH k A → PinOk outer H s (a, oe) → Zc cls d oe → (∃ vs, oe.data = .fields vs) →
    Env0 P w K mg base A outer s H → BindsTo s fd args (ps.zip us) → Vals vs us → sp a cls d vs H Q E → codeAny (model P w) A (.call (.ref f) args) (CR L2.CX0 outer P w H s Q E) s
theorem fn_ofW {P : Program} {w : World} {K : PySem.W.Frag} {mg : Str → Option Value} {base : Heap} {k : Nat} {f : Addr} {name qual : Str} {params : Arguments} {body : List Stmt} {scope : Scope} {dV kV doc pm cdv ct oc : Value} {an od : Option Addr}
    {osl : Array (Option Value)} {N ps : List Str} {sp : Addr → Value → Option Addr → Sp} (lk : K.lookup f = some ⟨oc, od, .func (PySem.W.fnOf name qual params body scope dV kV doc pm an cdv ct), osl⟩) (hcd : PySem.W.codeIn K cdv qual = true) (S : FnScope N ps scope)
    (len : ∀ a cls d vs H Q E, sp a cls d vs H Q E → vs.length = ps.length)
    (hbody : ∀ (A : Around) (outer : List Env) (s : Shared) (H : Hp) (vs : List V) (Q : VK) (E : XK) (a : Addr) (oe : Obj) (cls : Value) (d : Option Addr), Zc cls d oe → (∃ vs, oe.data = .fields vs) → RoomH k (A.deeper (envOfC qual scope s.heap.objs.size f cdv)) → sp a cls d vs H Q E →
      ∃ t, PSs (cxH L2.CX0 P w K mg base N qual scope f cdv A outer s H E (a, oe)) body t ∧ t { nx := fun _ H' => Q .non H', rt := Q } (L2.start N vs) H) :
    FnW P w K mg base (k + 1) f (PySem.W.fnOf name qual params body scope dV kV doc pm an cdv ct) ps sp := by
  refine ⟨len, fun A outer s H args us vs Q E a oe cls d hr hpin hz hf e0 hb r hsp => ?_⟩
  have hl := len _ _ _ _ _ _ _ hsp
  have KX : K.In s.heap := e0.mod.kin.keeps fun b o e => (e0.bs b o e).1
  have lim : s.heap.NoLimit := e0.mod.nolimit.keeps fun b o e => (e0.bs b o e).1
  have hkind : ∀ y ∈ ps.zip us, scope.names.lookup y.1 = some .local ∨ (scope.names.lookup y.1 = some .cell ∧ ((cellsFrom (s.heap.objs.size + 1) scope.names []).lookup y.1).isSome = true) := fun ⟨n, v⟩ hy => by
    rcases S.par n (List.of_mem_zip hy).1 with q | q
    · exact .inl q
    · exact .inr ⟨q, PySem.W.cellsFrom_some _ _ _ (.inl q)⟩
  refine codeAny_call_function hr.depth (KX _ _ lk) rfl S.co S.gen rfl (PySem.W.codeRec_of KX hcd) (hb _ _ _ _ ?_)
  refine wpAny_newFunctionEnv_cells S.kind hkind fun env he s1 x => ?_
  subst he
  refine ⟨lim.keeps x.toInCall.keep, codeAny_func ?_⟩
  obtain ⟨t, ht, hq⟩ := hbody A outer s H vs Q E a oe cls d hz hf (hr.deeper _) hsp
  have I : Inv (cxH L2.CX0 P w K mg base N qual scope f cdv A outer s H E (a, oe)) [] (L2.start N vs) H s1 := inv_startH S hpin e0 hl r x
  refine wpAny_mono (ht.run [] s1 (L2.start N vs) H _ I hq) (fun fl s' hs => ?_) fun e s' hs => hs
  have fin : ∀ {σ' : L2.St} {H' : Hp} {v : V} {u : Value}, Inv (cxH L2.CX0 P w K mg base N qual scope f cdv A outer s H E (a, oe)) [] σ' H' s' → RelV v u → Q v H' → CE outer P w H s Q u s' :=
    fun {σ' H' v u} J rv q => ⟨v, H', J.os, J.bare, J.base, J.hok, rv, q⟩
  cases fl with
  | ret u =>
    obtain ⟨v, σ', H', J, rv, q⟩ := hs
    exact fin J rv q
  | next =>
    obtain ⟨σ', H', J, q⟩ := hs
    exact fin (v := V.non) (u := Value.none) J rfl q
  | brk =>
    obtain ⟨_, _, _, q⟩ := hs
    exact False.elim q
  | cont =>
    obtain ⟨_, _, _, q⟩ := hs
    exact False.elim q
theorem okW {P : Program} {w : World} {K : PySem.W.Frag} {mg : Str → Option Value} {base : Heap} {x qual : Str} {st : Stmt} {f : Addr} {fd : FuncData} {N ps : List Str} {k : Nat} {sp : Addr → Value → Option Addr → Sp} (F : Fun K x qual st f fd) (S : FnScope N ps (defScope st))
    (len : ∀ a cls d vs H Q E, sp a cls d vs H Q E → vs.length = ps.length)
    (hbody : ∀ (cdv : Value) (A : Around) (outer : List Env) (s : Shared) (H : Hp) (vs : List V) (Q : VK) (E : XK) (a : Addr) (oe : Obj) (cls : Value) (d : Option Addr), Zc cls d oe → (∃ vs, oe.data = .fields vs) → RoomH k (A.deeper (envOfC qual (defScope st) s.heap.objs.size f cdv)) → sp a cls d vs H Q E →
      ∃ t, PSs (cxH L2.CX0 P w K mg base N qual (defScope st) f cdv A outer s H E (a, oe)) (defBody st) t ∧ t { nx := fun _ H' => Q .non H', rt := Q } (L2.start N vs) H) : FnW P w K mg base (k + 1) f fd ps sp := by
  obtain ⟨oc, od, kV, doc, pm, an, cdv, ct, osl, rfl, lk, hcd⟩ := F.ex
  exact fn_ofW lk hcd S len fun A outer s H vs Q E a oe cls d hz hf hr hsp => hbody cdv A outer s H vs Q E a oe cls d hz hf hr hsp
theorem call_isW {X : Cx} {K : PySem.W.Frag} {a : Addr} {oe : Obj} {cls : Value} {d : Option Addr} (hK : X.K = K) (hp : (a, oe) ∈ X.pn) (hz : Zc cls d oe) (hf : ∃ vs, oe.data = .fields vs) : CallR X (.builtin "isinstance") (rIsX K a cls d) := by
  intro pins s σ H xs us Q I r h
  obtain ⟨D, c, cv, b, rfl, rfl, C, rfl, hcv, e, q⟩ := h
  subst hK
  cases r with
  | cons rx rr =>
    cases rr with
    | cons rt rr =>
      cases rr
      cases rx
      have ec := hcv _ rt
      subst ec
      obtain ⟨hget, _⟩ := I.pin (a, oe) (List.mem_append.mpr (.inl hp))
      obtain ⟨vs, hv⟩ := hf
      have J : PySem.W.InstAt s.heap a oe D none := by
        obtain ⟨oc, od, oda, osl⟩ := oe
        obtain ⟨h1, h2⟩ := hz
        dsimp only at h1 h2 hv
        subst h1 h2 hv
        exact ⟨hget, rfl, rfl, trivial⟩
      exact PySem.W.kia_one (PySem.W.handS_kitx_exc C.hg C.hk C.hs C.hd C.ha C.hn C.ht C.hm) I.kIn J e (fun z => nomatch z) fun tk => ⟨.bl b, H, I.kept (t' := tk) fun _ _ z => z, rfl, q⟩
/-- f(e), within the suite -/
def tCallW (sp : Addr → Value → Option Addr → Sp) (a : Addr) (cls : Value) (d : Option Addr) (t : TA) : TE := fun σ H Q => t σ H fun vs H1 => sp a cls d vs H1 Q E0
section
variable {X : Cx} {k : Nat} {f : Addr} {fd : FuncData} {ps : List Str} {sp : Addr → Value → Option Addr → Sp} {x : Str} {q pos : Pos} {e : Expr} {es : List Expr} {t : TA} {a : Addr} {oe : Obj} {cls : Value} {d : Option Addr}
theorem pe_callW (F : FnW X.prog X.w X.K X.mg X.base k f fd ps sp) (hr : RoomH k X.A) (hp : (a, oe) ∈ X.pn) (hz : Zc cls d oe) (hf : ∃ vs, oe.data = .fields vs) (hg : Gl X x) (hm : X.mg x = some (.ref f)) (hk : PySem.W.keepIn X.K (.ref f) = true) (hb : Binds X.K fd ps [])
    (ha : PA X (e :: es) t) (hdb : (x == ("__debug__" : Str)) = false := by decide) (he : starEach (e :: es) X.env = (false, eval e X.env) :: starEach es X.env := by rfl) (hpl : (backTo pos (starEach es X.env)).any (·.1) = false := by rfl) :
    PE X (.Call (.Name x q) (e :: es) [] pos) (tCallW sp a cls d t) := by
  refine ⟨fun pins s σ H Q I h => ?_⟩
  refine wpAny_Call_Name_kw (ld_glob I hg hm ?_ hdb)
  refine PySem.W.callWith_K (h₀ := X.base) I.ok.mod.kin hk (thn (ha.run pos pins s σ H _ I h) fun us s1 ⟨vs, H1, I1, r, q⟩ => ⟨I1.kIn, ?_⟩) he hpl
  have hl : us.length = ps.length := by rw [← r.length]; exact F.len _ _ _ _ _ _ _ q
  have b := hb s1 us I1.kIn (by rw [List.append_nil]; exact hl)
  rw [List.append_nil] at b
  have P1 := I1.pin (a, oe) (List.mem_append_left _ hp)
  have hpin : PinOk X.stack H1 s1 (a, oe) := ⟨P1.1, P1.2.1, fun hm => (List.mem_cons.mp (I1.stkSub a hm)).elim P1.2.2.1 P1.2.2.2.1, P1.2.2.2.2⟩
  refine wpAny_call (codeAny_mono (F.run X.A X.stack s1 H1 ⟨us, []⟩ us vs Q E0 a oe cls d hr hpin hz hf I1.env0 b r q) fun r s' hq => ?_)
  cases r with
  | error e => exact hq.elim
  | ok fl =>
    cases fl with
    | ret u => exact I1.after hq
    | next => exact False.elim hq
    | brk => exact False.elim hq
    | cont => exact False.elim hq
end
end Spw
namespace Spw
open PySem PySem.Spec PyProof.Rows L2 Spm
/-- the refusal D, the old things kept -/
def RE (D : Addr) (H : Hp) (E : XK) : Prop := ∀ H', Same H H' → E (.ref D) none H'
theorem RE.on {D : Addr} {H H' : Hp} {E : XK} (h : RE D H E) (s : Same H H') : RE D H' E := fun _ s2 => h _ (s.trans s2)
theorem RE.here {D : Addr} {H : Hp} {E : XK} (h : RE D H E) : E (.ref D) none H := h _ fun _ _ z => z
theorem stepF {i j : Int} (h : i ≠ j) {A B : Prop} (hb : B) : if decide (V.int i = V.int j) = true then A else B := iteDF (fun z => h (V.int.inj z)) hb
theorem stepT {i j : Int} (h : i = j) {A B : Prop} (ha : A) : if decide (V.int i = V.int j) = true then A else B := iteD (congrArg V.int h) ha
/-- what the three that ask for a root refuse -/
def AskP (K : PySem.W.Frag) (C : Addr) (D : Exs) (vs : List V) (H : Hp) (E : XK) : Prop := ∃ (a l : Addr) (p : Nat) (row : List Int) (x : Int), vs = [.ref a, .int x, .ref l] ∧ FieldAt C H a p ∧ Good p ∧ SqL K H l (il row) ∧
  (¬ (1 ≤ x ∧ x < p) ∨ ¬ Rests p row → RE D.R H E) ∧ (1 ≤ x → x < p → row = [] → RE D.W H E) ∧
  (1 ≤ x → x < p → Rests p row → row ≠ [] → (∀ n, Ord p x n → n ≠ row.length) ∧ RE D.Z H E)
end Spw
namespace Spw
open PySem PySem.Spec PyProof.Rows L2 Spm
theorem sf13 : SF 13 := ⟨by decide, by decide, fun d a b c => (by decide +kernel : ∀ d : Fin 32, 2 ≤ d.1 → d.1 < 13 → 13 % d.1 ≠ 0) ⟨d, b⟩ a c⟩
theorem sf61 : SF 61 := ⟨by decide, by decide, fun d a b c => (by decide +kernel : ∀ d : Fin 32, 2 ≤ d.1 → d.1 < 61 → 61 % d.1 ≠ 0) ⟨d, b⟩ a c⟩
theorem sf997 : SF 997 := ⟨by decide, by decide, fun d a b c => (by decide +kernel : ∀ d : Fin 32, 2 ≤ d.1 → d.1 < 997 → 997 % d.1 ≠ 0) ⟨d, b⟩ a c⟩
theorem good13 : Good 13 := good_of sf13
theorem good61 : Good 61 := good_of sf61
theorem prime13 : PrimeP 13 := prime_of_sf (p := 13) sf13
theorem prime61 : PrimeP 61 := prime_of_sf (p := 61) sf61
theorem prime997 : PrimeP 997 := prime_of_sf (p := 997) sf997
/-- three points, tracked -/
theorem pts3 {K : PySem.W.Frag} {H : Hp} {l t u v : Addr} {a b c d e f : Int} (hl : H l = some (.lst [.ref t, .ref u, .ref v])) (ht : H t = some (.tup [.int a, .int b])) (hu : H u = some (.tup [.int c, .int d])) (hv : H v = some (.tup [.int e, .int f])) :
    PtsAt K H l [t, u, v] [(a, b), (c, d), (e, f)] :=
  ⟨sql hl, rfl, fun i x h => by
    match i, h with
    | 0, h => exact ⟨(a, b), rfl, by rw [← Option.some.inj h]; exact sqt ht⟩
    | 1, h => exact ⟨(c, d), rfl, by rw [← Option.some.inj h]; exact sqt hu⟩
    | 2, h => exact ⟨(e, f), rfl, by rw [← Option.some.inj h]; exact sqt hv⟩
    | i + 3, h => exact absurd h (by simp)⟩
end Spw
namespace Spw
open PySem PySem.Spec PyProof.Rows L2 Spm
theorem rests_nil {p : Int} : Rests p [] := fun _ h => nomatch h
end Spw
namespace Spw
open PySem PySem.Spec PyProof.Rows L2 Spm
theorem shareR {G : Prop} {R : Addr → Addr → Int → Hp → Prop} (Pre : Addr → Addr → Int → Hp → Prop) (b : (∀ f l x H, Pre f l x H → R f l x H) → G) (main : ∀ f l x H, Pre f l x H → R f l x H) : G := b main
/-- a root of no such length -/
def NoR (K : PySem.W.Frag) (C : Addr) (H : Hp) (f l : Addr) (x : Int) (H1 : Hp) : Prop := Same H H1 ∧ ∃ (p : Nat) (row : List Int), FieldAt C H1 f p ∧ Good p ∧ SqL K H1 l (il row) ∧ 1 ≤ x ∧ x < p ∧ Rests p row ∧ row ≠ [] ∧ ∀ n, Ord p x n → n ≠ row.length
def upI (N : Nat) : List Int := (List.range N).map fun (i : Nat) => (0 : Int) + (i : Int)
theorem upI_rg (N : Nat) : rgV 0 (N : Int) = il (upI N) := by
  unfold rgV il upI
  rw [List.map_map, show ((N : Int) - 0).toNat = N by omega]
  rfl
theorem upI_len (N : Nat) : (upI N).length = N := by unfold upI; rw [List.length_map, List.length_range]
theorem upI_rests {N p : Nat} (h : N ≤ p) : Rests p (upI N) := fun x hx => by
  obtain ⟨i, hi, rfl⟩ := List.mem_map.mp hx
  have := List.mem_range.mp hi
  omega
theorem menu13 {c : Int} (h0 : 0 ≤ c) (h1 : c < 10) : ∃ x : Int, (1 ≤ x ∧ x < ((13 : Nat) : Int) ∧ ∀ n, Ord 13 x n → n ≠ 4) ∧ atI [V.int 1, V.int 2, V.int 3, V.int 4, V.int 6, V.int 7, V.int 9, V.int 10, V.int 11, V.int 12] c = some (.int x) := by
  have h : c = 0 ∨ c = 1 ∨ c = 2 ∨ c = 3 ∨ c = 4 ∨ c = 5 ∨ c = 6 ∨ c = 7 ∨ c = 8 ∨ c = 9 := by omega
  rcases h with rfl | rfl | rfl | rfl | rfl | rfl | rfl | rfl | rfl | rfl
  · exact ⟨1, ⟨by decide, by decide, fun n k e => by subst e; exact k.low 1 (by decide) (by decide) (by decide)⟩, rfl⟩
  · exact ⟨2, ⟨by decide, by decide, fun n k e => by subst e; exact absurd k.one (by decide)⟩, rfl⟩
  · exact ⟨3, ⟨by decide, by decide, fun n k e => by subst e; exact absurd k.one (by decide)⟩, rfl⟩
  · exact ⟨4, ⟨by decide, by decide, fun n k e => by subst e; exact absurd k.one (by decide)⟩, rfl⟩
  · exact ⟨6, ⟨by decide, by decide, fun n k e => by subst e; exact absurd k.one (by decide)⟩, rfl⟩
  · exact ⟨7, ⟨by decide, by decide, fun n k e => by subst e; exact absurd k.one (by decide)⟩, rfl⟩
  · exact ⟨9, ⟨by decide, by decide, fun n k e => by subst e; exact absurd k.one (by decide)⟩, rfl⟩
  · exact ⟨10, ⟨by decide, by decide, fun n k e => by subst e; exact absurd k.one (by decide)⟩, rfl⟩
  · exact ⟨11, ⟨by decide, by decide, fun n k e => by subst e; exact absurd k.one (by decide)⟩, rfl⟩
  · exact ⟨12, ⟨by decide, by decide, fun n k e => by subst e; exact k.low 2 (by decide) (by decide) (by decide)⟩, rfl⟩
theorem menu61 {c : Int} (h0 : 0 ≤ c) (h1 : c < 8) : ∃ N : Nat, (2 ≤ N ∧ N ≤ 30) ∧ atI [V.int 6, V.int 4, V.int 12, V.int 15, V.int 20, V.int 10, V.int 30, V.int 3] c = some (.int (N : Int)) := by
  have h : c = 0 ∨ c = 1 ∨ c = 2 ∨ c = 3 ∨ c = 4 ∨ c = 5 ∨ c = 6 ∨ c = 7 := by omega
  rcases h with rfl | rfl | rfl | rfl | rfl | rfl | rfl | rfl
  · exact ⟨6, by decide, rfl⟩
  · exact ⟨4, by decide, rfl⟩
  · exact ⟨12, by decide, rfl⟩
  · exact ⟨15, by decide, rfl⟩
  · exact ⟨20, by decide, rfl⟩
  · exact ⟨10, by decide, rfl⟩
  · exact ⟨30, by decide, rfl⟩
  · exact ⟨3, by decide, rfl⟩
theorem ord_one {p n : Nat} (hp : 2 ≤ p) (h : Ord p 1 n) : n = 1 := by
  have := h.pos
  by_cases c : n = 1
  · exact c
  · exact absurd (by rw [Int.pow_succ, Int.pow_zero, Int.one_mul]; exact Int.emod_eq_of_lt (by decide) (by omega)) (h.low 1 (by decide) (by omega))
end Spw
namespace Spw
open PySem PySem.Spec PyProof.Rows L2 Spm
def insI (A : List Int) (i : Int) (y : Int) : List Int := A.take i.toNat ++ [y] ++ A.drop i.toNat
theorem il_ins (A : List Int) (i y : Int) : (il A).take i.toNat ++ [V.int y] ++ (il A).drop i.toNat = il (insI A i y) := by
  unfold il insI
  simp
theorem mem_ins (A : List Int) (i y : Int) : y ∈ insI A i y := by
  unfold insI
  simp
theorem ins_ne (A : List Int) (i y : Int) : insI A i y ≠ [] := fun h => by
  have := mem_ins A i y
  rw [h] at this
  exact nomatch this
theorem menuF {bad c : Int} (hb : bad < 0 ∨ 13 ≤ bad) (h0 : 0 ≤ c) (h1 : c < 3) : ∃ y : Int, (y < 0 ∨ 10 ≤ y) ∧ atI [V.int 10, V.int (-1), V.int bad] c = some (.int y) := by
  have h : c = 0 ∨ c = 1 ∨ c = 2 := by omega
  rcases h with rfl | rfl | rfl
  · exact ⟨10, .inr (by decide), rfl⟩
  · exact ⟨-1, .inl (by decide), rfl⟩
  · exact ⟨bad, by omega, rfl⟩
end Spw
namespace Spw
open PySem PySem.Spec PyProof.Rows L2 Spm
/-- the class of refusals at D is the k-th -/
def Kd (K : PySem.W.Frag) (x : Exs) (k : Int) (D : Addr) : Prop := ExcC K D ∧ PySem.W.exmOne K (.ref D) (.ref x.S) = some true ∧ PySem.W.kitOne K (.ref D) (.ref x.P) = some (decide (k = 0)) ∧ PySem.W.kitOne K (.ref D) (.ref x.R) = some (decide (k = 1)) ∧
  PySem.W.kitOne K (.ref D) (.ref x.W) = some (decide (k = 2)) ∧ PySem.W.kitOne K (.ref D) (.ref x.Z) = some (decide (k = 3)) ∧ PySem.W.kitOne K (.ref D) (.type "ValueError") = some true
def PreK (K : PySem.W.Frag) (x : Exs) (H : Hp) (w : Int) (D : Addr) (H' : Hp) : Prop := ∃ k, Kd K x k D ∧ Same H H' ∧ (k = 0 ∨ k = 1 ∨ k = 2 ∨ k = 3) ∧ atI [V.int 0, V.int 1, V.int 2, V.int 3, V.int 1] w = some (.int k)
theorem shareK {G : Prop} {R : Addr → Hp → Prop} (Pre : Addr → Hp → Prop) (b : (∀ D H, Pre D H → R D H) → G) (main : ∀ D H, Pre D H → R D H) : G := b main
theorem menuB {far c : Int} (hf : 0 ≤ far) (h0 : 0 ≤ c) (h1 : c < 4) : ∃ bad : Int, (bad < 0 ∨ 13 ≤ bad) ∧ atI [V.int (-1 - far), V.int 13, V.int (13 + far), V.int (-1)] c = some (.int bad) := by
  have h : c = 0 ∨ c = 1 ∨ c = 2 ∨ c = 3 := by omega
  rcases h with rfl | rfl | rfl | rfl
  · exact ⟨-1 - far, .inl (by omega), rfl⟩
  · exact ⟨13, .inr (by decide), rfl⟩
  · exact ⟨13 + far, .inr (by omega), rfl⟩
  · exact ⟨-1, .inl (by decide), rfl⟩
theorem noPrime {n : Int} (h : n < 2 ∨ 997 < n) : ¬ PrimeP n := fun k => by
  have := k.1
  have := k.2.1
  omega
theorem menuP {c : Int} (h0 : 0 ≤ c) (h1 : c < 6) : ∃ n : Int, ¬ PrimeP n ∧ atI [V.int 0, V.int 1, V.int (-7), V.int 4, V.int 998, V.int 1009] c = some (.int n) := by
  have h : c = 0 ∨ c = 1 ∨ c = 2 ∨ c = 3 ∨ c = 4 ∨ c = 5 := by omega
  rcases h with rfl | rfl | rfl | rfl | rfl | rfl
  · exact ⟨0, noPrime (by decide), rfl⟩
  · exact ⟨1, noPrime (by decide), rfl⟩
  · exact ⟨-7, noPrime (by decide), rfl⟩
  · exact ⟨4, fun k => k.2.2 2 (by decide) (by decide) (by decide), rfl⟩
  · exact ⟨998, noPrime (by decide), rfl⟩
  · exact ⟨1009, noPrime (by decide), rfl⟩
def due (k : Int) (i : Nat) : List V := (List.range i).map fun (j : Nat) => V.bl (decide (V.int ((0 : Int) + (j : Int)) = V.int k) || decide (V.int ((0 : Int) + (j : Int)) = V.int 4))
theorem due_next (k : Int) (i : Nat) : due k (i + 1) = due k i ++ [V.bl (decide (V.int ((0 : Int) + (i : Int)) = V.int k) || decide (V.int ((0 : Int) + (i : Int)) = V.int 4))] := by
  unfold due
  rw [List.range_succ, List.map_append]
  rfl
theorem due_len (k : Int) (i : Nat) : (due k i).length = i := by unfold due; rw [List.length_map, List.length_range]
def dueD (k : Int) : PyData := .list [.bool (decide (k = 0)), .bool (decide (k = 1)), .bool (decide (k = 2)), .bool (decide (k = 3)), .bool true]
theorem dp_due {K : PySem.W.Frag} {H : Hp} {a : Addr} {k : Int} (h : H a = some (.lst [.bl (decide (k = 0)), .bl (decide (k = 1)), .bl (decide (k = 2)), .bl (decide (k = 3)), .bl true])) : Dp K H (.ref a) (dueD k) :=
  .lst (sql h) (.cons (.bl _) (.cons (.bl _) (.cons (.bl _) (.cons (.bl _) (.cons (.bl _) .nil)))))
theorem due_is {k : Int} (h : k = 0 ∨ k = 1 ∨ k = 2 ∨ k = 3) : due k 5 = [.bl (decide (k = 0)), .bl (decide (k = 1)), .bl (decide (k = 2)), .bl (decide (k = 3)), .bl true] := by
  rcases h with rfl | rfl | rfl | rfl <;> rfl
theorem dueD_ok {k : Int} (h : k = 0 ∨ k = 1 ∨ k = 2 ∨ k = 3) : SeqAt.shaped (dueD k) = true ∧ PyData.eqv (dueD k) (dueD k) = true := by
  rcases h with rfl | rfl | rfl | rfl <;> exact ⟨by decide, by decide⟩
end Spw
namespace Spw
open PySem PySem.Spec PyProof.Rows L2 Spm
theorem roomW {X : Cx} {k : Nat} {a : Addr} {pn : List (Addr × Obj)} (hr : Room (k + 1) X.A) : L2H.RoomH 1 (X.suite a pn).A :=
  ⟨by have h := hr.dp; show X.A.depth + 3 * 1 + 5 < recursionLimit; omega, by have h := hr.un; show X.A.units + 16 * 1 + 200 < cLine; omega⟩
end Spw

namespace Spw
open PySem PySem.Spec PyProof.Rows L2 Spm
def top (i : Nat) : Stmt := PySem.Challenge.pw_spinsum_k14_each_refusal_its_own.main.body.getD i (.Pass ⟨0, 0, 0, 0⟩)
abbrev s_l_cell_at : Stmt := top 31
abbrev N_l_cell_at : List Str := ["script", "k"]
theorem sc_l_cell_at : FnScope N_l_cell_at ["script", "k"] (defScope s_l_cell_at) := ⟨rfl, rfl, rfl, by decide +kernel, rfl, by decide +kernel, by decide +kernel⟩
abbrev s_l_order : Stmt := top 37
abbrev N_l_order : List Str := ["one", "here", "found"]
theorem sc_l_order : FnScope N_l_order ["one"] (defScope s_l_order) := ⟨rfl, rfl, rfl, by decide +kernel, rfl, by decide +kernel, by decide +kernel⟩
abbrev s_is_prime : Stmt := top 16
abbrev N_is_prime : List Str := ["number", "part"]
theorem sc_is_prime : FnScope N_is_prime ["number"] (defScope s_is_prime) := ⟨rfl, rfl, rfl, by decide +kernel, rfl, by decide +kernel, by decide +kernel⟩
abbrev s_m_init : Stmt := inClass (top 17) 0
abbrev N_m_init : List Str := ["self", "prime"]
theorem sc_m_init : FnScope N_m_init ["self", "prime"] (defScope s_m_init) := ⟨rfl, rfl, rfl, by decide +kernel, rfl, by decide +kernel, by decide +kernel⟩
abbrev s_m_ask : Stmt := inClass (top 17) 1
abbrev N_m_ask : List Str := ["self", "some", "least", "one"]
theorem sc_m_ask : FnScope N_m_ask ["self", "some", "least"] (defScope s_m_ask) := ⟨rfl, rfl, rfl, by decide +kernel, rfl, by decide +kernel, by decide +kernel⟩
abbrev s_ask_row : Stmt := top 7
abbrev N_ask_row : List Str := ["field", "row"]
theorem sc_ask_row : FnScope N_ask_row ["field", "row"] (defScope s_ask_row) := ⟨rfl, rfl, rfl, by decide +kernel, rfl, by decide +kernel, by decide +kernel⟩
abbrev s_m_order : Stmt := inClass (top 17) 7
abbrev N_m_order : List Str := ["self", "one", "found", "here"]
theorem sc_m_order : FnScope N_m_order ["self", "one"] (defScope s_m_order) := ⟨rfl, rfl, rfl, by decide +kernel, rfl, by decide +kernel, by decide +kernel⟩
abbrev s_ask_all : Stmt := top 11
abbrev N_ask_all : List Str := ["field", "root", "row"]
theorem sc_ask_all : FnScope N_ask_all ["field", "root", "row"] (defScope s_ask_all) := ⟨rfl, rfl, rfl, by decide +kernel, rfl, by decide +kernel, by decide +kernel⟩
abbrev s_turned : Stmt := top 12
abbrev N_turned : List Str := ["field", "root", "row"]
theorem sc_turned : FnScope N_turned ["field", "root", "row"] (defScope s_turned) := ⟨rfl, rfl, rfl, by decide +kernel, rfl, by decide +kernel, by decide +kernel⟩
abbrev s_turned_back : Stmt := top 13
abbrev N_turned_back : List Str := ["field", "root", "row", "part", "number"]
theorem sc_turned_back : FnScope N_turned_back ["field", "root", "row"] (defScope s_turned_back) := ⟨rfl, rfl, rfl, by decide +kernel, rfl, by decide +kernel, by decide +kernel⟩
abbrev s_l_no_root : Stmt := top 38
abbrev N_l_no_root : List Str := ["field", "cell", "row", "root"]
theorem sc_l_no_root : FnScope N_l_no_root ["field", "cell"] (defScope s_l_no_root) := ⟨rfl, rfl, rfl, by decide +kernel, rfl, by decide +kernel, by decide +kernel⟩
abbrev s_ask_figures : Stmt := top 27
abbrev N_ask_figures : List Str := ["some", "one"]
theorem sc_ask_figures : FnScope N_ask_figures ["some"] (defScope s_ask_figures) := ⟨rfl, rfl, rfl, by decide +kernel, rfl, by decide +kernel, by decide +kernel⟩
abbrev s_long_product : Stmt := top 29
abbrev N_long_product : List Str := ["one", "other", "some", "figure", "rows", "found", "carry", "k", "here", "prime", "row"]
theorem sc_long_product : FnScope N_long_product ["one", "other"] (defScope s_long_product) := ⟨rfl, rfl, rfl, by decide +kernel, rfl, by decide +kernel, by decide +kernel⟩
abbrev s_ask_both : Stmt := top 21
abbrev N_ask_both : List Str := ["field", "one", "other"]
theorem sc_ask_both : FnScope N_ask_both ["field", "one", "other"] (defScope s_ask_both) := ⟨rfl, rfl, rfl, by decide +kernel, rfl, by decide +kernel, by decide +kernel⟩
abbrev s_plain_product : Stmt := top 22
abbrev N_plain_product : List Str := ["field", "one", "other"]
theorem sc_plain_product : FnScope N_plain_product ["field", "one", "other"] (defScope s_plain_product) := ⟨rfl, rfl, rfl, by decide +kernel, rfl, by decide +kernel, by decide +kernel⟩
abbrev s_ring_product : Stmt := top 23
abbrev N_ring_product : List Str := ["field", "one", "other", "found", "plain", "k"]
theorem sc_ring_product : FnScope N_ring_product ["field", "one", "other"] (defScope s_ring_product) := ⟨rfl, rfl, rfl, by decide +kernel, rfl, by decide +kernel, by decide +kernel⟩
abbrev s_l_two : Stmt := top 34
abbrev N_l_two : List Str := ["way", "field", "one", "other", "turn", "rows"]
theorem sc_l_two : FnScope N_l_two ["way", "field", "one", "other", "turn"] (defScope s_l_two) := ⟨rfl, rfl, rfl, by decide +kernel, rfl, by decide +kernel, by decide +kernel⟩
abbrev s_row_through : Stmt := top 24
abbrev N_row_through : List Str := ["field", "points", "point", "firsts", "found", "whole", "here", "step", "k"]
theorem sc_row_through : FnScope N_row_through ["field", "points"] (defScope s_row_through) := ⟨rfl, rfl, rfl, by decide +kernel, rfl, by decide +kernel, by decide +kernel⟩
abbrev s_worth_at : Stmt := top 9
abbrev N_worth_at : List Str := ["field", "row", "one"]
theorem sc_worth_at : FnScope N_worth_at ["field", "row", "one"] (defScope s_worth_at) := ⟨rfl, rfl, rfl, by decide +kernel, rfl, by decide +kernel, by decide +kernel⟩
abbrev s_l_no_row : Stmt := top 36
abbrev N_l_no_row : List Str := ["field", "cell", "way", "k"]
theorem sc_l_no_row : FnScope N_l_no_row ["field", "cell"] (defScope s_l_no_row) := ⟨rfl, rfl, rfl, by decide +kernel, rfl, by decide +kernel, by decide +kernel⟩
abbrev s_m_inverse : Stmt := inClass (top 17) 6
abbrev N_m_inverse : List Str := ["self", "one"]
theorem sc_m_inverse : FnScope N_m_inverse ["self", "one"] (defScope s_m_inverse) := ⟨rfl, rfl, rfl, by decide +kernel, rfl, by decide +kernel, by decide +kernel⟩
abbrev s_m_plus : Stmt := inClass (top 17) 2
abbrev N_m_plus : List Str := ["self", "one", "other"]
theorem sc_m_plus : FnScope N_m_plus ["self", "one", "other"] (defScope s_m_plus) := ⟨rfl, rfl, rfl, by decide +kernel, rfl, by decide +kernel, by decide +kernel⟩
abbrev s_m_power : Stmt := inClass (top 17) 5
abbrev N_m_power : List Str := ["self", "one", "often"]
theorem sc_m_power : FnScope N_m_power ["self", "one", "often"] (defScope s_m_power) := ⟨rfl, rfl, rfl, by decide +kernel, rfl, by decide +kernel, by decide +kernel⟩
abbrev s_m_times : Stmt := inClass (top 17) 3
abbrev N_m_times : List Str := ["self", "one", "other"]
theorem sc_m_times : FnScope N_m_times ["self", "one", "other"] (defScope s_m_times) := ⟨rfl, rfl, rfl, by decide +kernel, rfl, by decide +kernel, by decide +kernel⟩
abbrev s_l_one_rest : Stmt := top 33
abbrev N_l_one_rest : List Str := ["field", "cell", "bad", "way"]
theorem sc_l_one_rest : FnScope N_l_one_rest ["field", "cell", "bad"] (defScope s_l_one_rest) := ⟨rfl, rfl, rfl, by decide +kernel, rfl, by decide +kernel, by decide +kernel⟩
abbrev s_l_row_rest : Stmt := top 35
abbrev N_l_row_rest : List Str := ["field", "cell", "bad", "way", "row", "figures"]
theorem sc_l_row_rest : FnScope N_l_row_rest ["field", "cell", "bad"] (defScope s_l_row_rest) := ⟨rfl, rfl, rfl, by decide +kernel, rfl, by decide +kernel, by decide +kernel⟩
abbrev s_l_which : Stmt := top 32
abbrev N_l_which : List Str := ["e", "first"]
theorem sc_l_which : FnScope N_l_which ["e"] (defScope s_l_which) := ⟨rfl, rfl, rfl, by decide +kernel, rfl, by decide +kernel, by decide +kernel⟩
abbrev s_law : Stmt := top 39
abbrev N_law : List Str := ["script", "way", "far", "bad", "cell", "field", "told", "e", "kind", "k"]
theorem sc_law : FnScope N_law ["script"] (defScope s_law) := ⟨rfl, rfl, rfl, by decide +kernel, rfl, by decide +kernel, by decide +kernel⟩
structure Env (K : PySem.W.Frag) (mg : Str → Option Value) where
  C : Addr
  cl_C : Cls K C
  np_C : NoAttr K C "prime"
  g_C : mg "Field" = some (.ref C)
  f_l_cell_at : Addr
  d_l_cell_at : FuncData
  F_l_cell_at : Fun K "_law_cell_at" "_law_cell_at" s_l_cell_at f_l_cell_at d_l_cell_at
  b_l_cell_at : Binds K d_l_cell_at ["script", "k"] []
  g_l_cell_at : mg "_law_cell_at" = some (.ref f_l_cell_at)
  f_l_order : Addr
  d_l_order : FuncData
  F_l_order : Fun K "_law_order" "_law_order" s_l_order f_l_order d_l_order
  b_l_order : Binds K d_l_order ["one"] []
  g_l_order : mg "_law_order" = some (.ref f_l_order)
  f_is_prime : Addr
  d_is_prime : FuncData
  F_is_prime : Fun K "is_prime" "is_prime" s_is_prime f_is_prime d_is_prime
  b_is_prime : Binds K d_is_prime ["number"] []
  g_is_prime : mg "is_prime" = some (.ref f_is_prime)
  f_m_init : Addr
  d_m_init : FuncData
  F_m_init : Fun K "__init__" "Field.__init__" s_m_init f_m_init d_m_init
  b_m_init : Binds K d_m_init ["self", "prime"] []
  M_C : Mk K C f_m_init
  f_m_ask : Addr
  d_m_ask : FuncData
  F_m_ask : Fun K "ask" "Field.ask" s_m_ask f_m_ask d_m_ask
  b_m_ask : Binds K d_m_ask ["self", "some", "least"] []
  h_m_ask : Meth K C "ask" f_m_ask
  f_ask_row : Addr
  d_ask_row : FuncData
  F_ask_row : Fun K "ask_row" "ask_row" s_ask_row f_ask_row d_ask_row
  b_ask_row : Binds K d_ask_row ["field", "row"] []
  g_ask_row : mg "ask_row" = some (.ref f_ask_row)
  f_m_order : Addr
  d_m_order : FuncData
  F_m_order : Fun K "order" "Field.order" s_m_order f_m_order d_m_order
  b_m_order : Binds K d_m_order ["self", "one"] []
  h_m_order : Meth K C "order" f_m_order
  f_ask_all : Addr
  d_ask_all : FuncData
  F_ask_all : Fun K "ask_all" "ask_all" s_ask_all f_ask_all d_ask_all
  b_ask_all : Binds K d_ask_all ["field", "root", "row"] []
  g_ask_all : mg "ask_all" = some (.ref f_ask_all)
  f_turned : Addr
  d_turned : FuncData
  F_turned : Fun K "turned" "turned" s_turned f_turned d_turned
  b_turned : Binds K d_turned ["field", "root", "row"] []
  g_turned : mg "turned" = some (.ref f_turned)
  f_turned_back : Addr
  d_turned_back : FuncData
  F_turned_back : Fun K "turned_back" "turned_back" s_turned_back f_turned_back d_turned_back
  b_turned_back : Binds K d_turned_back ["field", "root", "row"] []
  g_turned_back : mg "turned_back" = some (.ref f_turned_back)
  f_l_no_root : Addr
  d_l_no_root : FuncData
  F_l_no_root : Fun K "_law_no_root" "_law_no_root" s_l_no_root f_l_no_root d_l_no_root
  b_l_no_root : Binds K d_l_no_root ["field", "cell"] []
  g_l_no_root : mg "_law_no_root" = some (.ref f_l_no_root)
  f_ask_figures : Addr
  d_ask_figures : FuncData
  F_ask_figures : Fun K "ask_figures" "ask_figures" s_ask_figures f_ask_figures d_ask_figures
  b_ask_figures : Binds K d_ask_figures ["some"] []
  g_ask_figures : mg "ask_figures" = some (.ref f_ask_figures)
  f_long_product : Addr
  d_long_product : FuncData
  F_long_product : Fun K "long_product" "long_product" s_long_product f_long_product d_long_product
  b_long_product : Binds K d_long_product ["one", "other"] []
  g_long_product : mg "long_product" = some (.ref f_long_product)
  f_ask_both : Addr
  d_ask_both : FuncData
  F_ask_both : Fun K "ask_both" "ask_both" s_ask_both f_ask_both d_ask_both
  b_ask_both : Binds K d_ask_both ["field", "one", "other"] []
  g_ask_both : mg "ask_both" = some (.ref f_ask_both)
  f_plain_product : Addr
  d_plain_product : FuncData
  F_plain_product : Fun K "plain_product" "plain_product" s_plain_product f_plain_product d_plain_product
  b_plain_product : Binds K d_plain_product ["field", "one", "other"] []
  g_plain_product : mg "plain_product" = some (.ref f_plain_product)
  f_ring_product : Addr
  d_ring_product : FuncData
  F_ring_product : Fun K "ring_product" "ring_product" s_ring_product f_ring_product d_ring_product
  b_ring_product : Binds K d_ring_product ["field", "one", "other"] []
  g_ring_product : mg "ring_product" = some (.ref f_ring_product)
  f_l_two : Addr
  d_l_two : FuncData
  F_l_two : Fun K "_law_two" "_law_two" s_l_two f_l_two d_l_two
  b_l_two : Binds K d_l_two ["way", "field", "one", "other", "turn"] []
  g_l_two : mg "_law_two" = some (.ref f_l_two)
  f_row_through : Addr
  d_row_through : FuncData
  F_row_through : Fun K "row_through" "row_through" s_row_through f_row_through d_row_through
  b_row_through : Binds K d_row_through ["field", "points"] []
  g_row_through : mg "row_through" = some (.ref f_row_through)
  f_worth_at : Addr
  d_worth_at : FuncData
  F_worth_at : Fun K "worth_at" "worth_at" s_worth_at f_worth_at d_worth_at
  b_worth_at : Binds K d_worth_at ["field", "row", "one"] []
  g_worth_at : mg "worth_at" = some (.ref f_worth_at)
  f_l_no_row : Addr
  d_l_no_row : FuncData
  F_l_no_row : Fun K "_law_no_row" "_law_no_row" s_l_no_row f_l_no_row d_l_no_row
  b_l_no_row : Binds K d_l_no_row ["field", "cell"] []
  g_l_no_row : mg "_law_no_row" = some (.ref f_l_no_row)
  f_m_inverse : Addr
  d_m_inverse : FuncData
  F_m_inverse : Fun K "inverse" "Field.inverse" s_m_inverse f_m_inverse d_m_inverse
  b_m_inverse : Binds K d_m_inverse ["self", "one"] []
  h_m_inverse : Meth K C "inverse" f_m_inverse
  f_m_plus : Addr
  d_m_plus : FuncData
  F_m_plus : Fun K "plus" "Field.plus" s_m_plus f_m_plus d_m_plus
  b_m_plus : Binds K d_m_plus ["self", "one", "other"] []
  h_m_plus : Meth K C "plus" f_m_plus
  f_m_power : Addr
  d_m_power : FuncData
  F_m_power : Fun K "power" "Field.power" s_m_power f_m_power d_m_power
  b_m_power : Binds K d_m_power ["self", "one", "often"] []
  h_m_power : Meth K C "power" f_m_power
  f_m_times : Addr
  d_m_times : FuncData
  F_m_times : Fun K "times" "Field.times" s_m_times f_m_times d_m_times
  b_m_times : Binds K d_m_times ["self", "one", "other"] []
  h_m_times : Meth K C "times" f_m_times
  f_l_one_rest : Addr
  d_l_one_rest : FuncData
  F_l_one_rest : Fun K "_law_one_rest" "_law_one_rest" s_l_one_rest f_l_one_rest d_l_one_rest
  b_l_one_rest : Binds K d_l_one_rest ["field", "cell", "bad"] []
  g_l_one_rest : mg "_law_one_rest" = some (.ref f_l_one_rest)
  f_l_row_rest : Addr
  d_l_row_rest : FuncData
  F_l_row_rest : Fun K "_law_row_rest" "_law_row_rest" s_l_row_rest f_l_row_rest d_l_row_rest
  b_l_row_rest : Binds K d_l_row_rest ["field", "cell", "bad"] []
  g_l_row_rest : mg "_law_row_rest" = some (.ref f_l_row_rest)
  f_l_which : Addr
  d_l_which : FuncData
  F_l_which : Fun K "_law_which" "_law_which" s_l_which f_l_which d_l_which
  b_l_which : Binds K d_l_which ["e"] []
  g_l_which : mg "_law_which" = some (.ref f_l_which)
  f_law : Addr
  d_law : FuncData
  F_law : Fun K "law" "law" s_law f_law d_law
  b_law : Binds K d_law ["script"] []
  g_law : mg "law" = some (.ref f_law)
  x_NoPrime : Addr
  x_NoRest : Addr
  x_NoRoot : Addr
  x_NoRow : Addr
  x_SpinError : Addr
  X_NoPrime : Exc K mg "NoPrime" x_NoPrime x_SpinError
  X_NoRest : Exc K mg "NoRest" x_NoRest x_SpinError
  X_NoRoot : Exc K mg "NoRoot" x_NoRoot x_SpinError
  X_NoRow : Exc K mg "NoRow" x_NoRow x_SpinError
  X_SpinError : Exc K mg "SpinError" x_SpinError x_SpinError
  K_NoPrime_NoPrime : PySem.W.kitOne K (.ref x_NoPrime) (.ref x_NoPrime) = some true
  K_NoPrime_NoRest : PySem.W.kitOne K (.ref x_NoPrime) (.ref x_NoRest) = some false
  K_NoPrime_NoRoot : PySem.W.kitOne K (.ref x_NoPrime) (.ref x_NoRoot) = some false
  K_NoPrime_NoRow : PySem.W.kitOne K (.ref x_NoPrime) (.ref x_NoRow) = some false
  K_NoPrime_SpinError : PySem.W.kitOne K (.ref x_NoPrime) (.ref x_SpinError) = some true
  V_NoPrime : PySem.W.kitOne K (.ref x_NoPrime) (.type "ValueError") = some true
  K_NoRest_NoPrime : PySem.W.kitOne K (.ref x_NoRest) (.ref x_NoPrime) = some false
  K_NoRest_NoRest : PySem.W.kitOne K (.ref x_NoRest) (.ref x_NoRest) = some true
  K_NoRest_NoRoot : PySem.W.kitOne K (.ref x_NoRest) (.ref x_NoRoot) = some false
  K_NoRest_NoRow : PySem.W.kitOne K (.ref x_NoRest) (.ref x_NoRow) = some false
  K_NoRest_SpinError : PySem.W.kitOne K (.ref x_NoRest) (.ref x_SpinError) = some true
  V_NoRest : PySem.W.kitOne K (.ref x_NoRest) (.type "ValueError") = some true
  K_NoRoot_NoPrime : PySem.W.kitOne K (.ref x_NoRoot) (.ref x_NoPrime) = some false
  K_NoRoot_NoRest : PySem.W.kitOne K (.ref x_NoRoot) (.ref x_NoRest) = some false
  K_NoRoot_NoRoot : PySem.W.kitOne K (.ref x_NoRoot) (.ref x_NoRoot) = some true
  K_NoRoot_NoRow : PySem.W.kitOne K (.ref x_NoRoot) (.ref x_NoRow) = some false
  K_NoRoot_SpinError : PySem.W.kitOne K (.ref x_NoRoot) (.ref x_SpinError) = some true
  V_NoRoot : PySem.W.kitOne K (.ref x_NoRoot) (.type "ValueError") = some true
  K_NoRow_NoPrime : PySem.W.kitOne K (.ref x_NoRow) (.ref x_NoPrime) = some false
  K_NoRow_NoRest : PySem.W.kitOne K (.ref x_NoRow) (.ref x_NoRest) = some false
  K_NoRow_NoRoot : PySem.W.kitOne K (.ref x_NoRow) (.ref x_NoRoot) = some false
  K_NoRow_NoRow : PySem.W.kitOne K (.ref x_NoRow) (.ref x_NoRow) = some true
  K_NoRow_SpinError : PySem.W.kitOne K (.ref x_NoRow) (.ref x_SpinError) = some true
  V_NoRow : PySem.W.kitOne K (.ref x_NoRow) (.type "ValueError") = some true
  n_ValueError : mg "ValueError" = none
  n_abs : mg "abs" = none
  n_isinstance : mg "isinstance" = none
  n_len : mg "len" = none
  n_list : mg "list" = none
  n_range : mg "range" = none
  n_set : mg "set" = none
  c_GREATEST : ∃ t, mg "GREATEST" = some (.int 997 t)
  c_MOST_POINTS : ∃ t, mg "MOST_POINTS" = some (.int 32 t)
  P_PRIMES : Addr
  g_PRIMES : mg "PRIMES" = some (.ref P_PRIMES)
  q_PRIMES : ∀ H : Hp, SqL K H P_PRIMES (il [193, 257, 449])
def Env.xs {K : PySem.W.Frag} {mg : Str → Option Value} (T : Env K mg) : Exs := ⟨T.x_NoPrime, T.x_NoRest, T.x_NoRow, T.x_NoRoot, T.x_SpinError⟩
end Spw

namespace Spw
open PySem PySem.Spec PyProof.Rows L2 Spm
section
variable {P : Program} {w : World} {K : PySem.W.Frag} {mg : Str → Option Value} {base : Heap}
/-- _law_cell_at -/
def sp_l_cell_at (K : PySem.W.Frag) (C : Addr) : Sp := fun vs H Q _ => ∃ (a : Addr) (ns : List Int) (k : Nat), vs = [.ref a, .int k] ∧ SqL K H a (il ns) ∧ Q (.int (at0 ns k)) H
theorem ok_l_cell_at (T : Env K mg) : FnOk P w K mg base CX0 1 T.f_l_cell_at T.d_l_cell_at ["script", "k"] (sp_l_cell_at K T.C) := by
  refine T.F_l_cell_at.ok sc_l_cell_at (fun vs H Q E h => ?_) (fun cdv A outer s H vs Q E hr h => ?_)
  · obtain ⟨a, ns, k, rfl, _⟩ := h
    rfl
  · obtain ⟨a, ns, k, rfl, hS, q⟩ := h
    refine ⟨_, (pss_cons (ps_if (pt_cmpR op_lt (pv 1) (pe_callB call_len_seq (by rfl) T.n_len PySem.boot_len (pa_cons (pv 0) pa_nil)) (nomark _)) (pss_one (ps_ret (pe_ix ix_list (pv 0) (pv 1) (fun _ _ => rfl)))) pss_nil)
      (pss_one (ps_ret pe_int))), ?_⟩
    refine ⟨_, rfl, _, rfl, a, _, rfl, .inl hS, _, _, rfl, rfl, _, rfl, ?_⟩
    rw [il_len]
    by_cases c : k < ns.length
    · refine iteD (by omega) ⟨_, rfl, _, rfl, a, _, _, _, rfl, rfl, hS, atI_nat (at_il (at0_get c)), ?_⟩
      exact q
    · refine iteDF (by omega) ?_
      have e : at0 ns k = 0 := by
        unfold at0
        rw [List.getD_eq_getElem?_getD, List.getElem?_eq_none (by omega)]
        rfl
      rw [e] at q
      exact q
end
end Spw

namespace Spw
open PySem PySem.Spec PyProof.Rows L2 Spm
section
variable {P : Program} {w : World} {K : PySem.W.Frag} {mg : Str → Option Value} {base : Heap}
/-- _law_order: the order by 61 -/
def sp_l_order (K : PySem.W.Frag) (C : Addr) : Sp := fun vs H Q _ => ∃ (n : Nat) (one : Int), vs = [.int one] ∧ 1 ≤ one ∧ one < 61 ∧ Ord 61 one n ∧ Q (.int n) H
theorem ok_l_order (T : Env K mg) : FnOk P w K mg base CX0 1 T.f_l_order T.d_l_order ["one"] (sp_l_order K T.C) := by
  refine T.F_l_order.ok sc_l_order (fun vs H Q E h => ?_) (fun cdv A outer s H vs Q E hr h => ?_)
  · obtain ⟨n, one, rfl, _⟩ := h
    rfl
  · obtain ⟨n, one, rfl, h0, h1, ho, q⟩ := h
    refine ⟨_, (pss_cons (ps_set (i := 1) sc_l_order.nd rfl (Or.inl rfl) (pv 0))
      (pss_cons (ps_set (i := 2) sc_l_order.nd rfl (Or.inl rfl) pe_int)
      (pss_cons (ps_while PassesOwn.never (pt_cmpR op_ne (pv 1) pe_int (nomark _)) (pss_cons (ps_set (i := 1) sc_l_order.nd rfl (Or.inl rfl) (pe_op op_mod (pe_op op_mul (pv 1) (pv 0)) pe_int))
      (pss_one (ps_set (i := 2) sc_l_order.nd rfl (Or.inl rfl) (pe_op op_add (pv 2) pe_int)))))
      (pss_one (ps_ret (pv 2)))))), ?_⟩
    have one1 : pwm 61 one 1 = one := by
      unfold pwm
      rw [Int.pow_succ, Int.pow_zero, Int.one_mul]
      exact Int.emod_eq_of_lt (by omega) h1
    refine ⟨_, rfl, fun m σ H' => ∃ (k : Nat), σ = [some (.int one), some (.int (pwm 61 one k)), some (.int k)] ∧ H' = H ∧ 0 < k ∧ k ≤ n ∧ m = n - k,
      ⟨n - 1, 1, by rw [one1]; rfl, rfl, by omega, ho.pos, rfl⟩, ?_⟩
    rintro m σ H' ⟨k, rfl, rfl, hk, hkn, rfl⟩
    refine ⟨_, rfl, rfl, _, rfl, ?_⟩
    by_cases c : pwm 61 one k = 1
    · have e : k = n := by
        by_cases q' : k < n
        · exact absurd c (ho.low k hk q')
        · omega
      subst e
      rw [c]
      refine iteNS rfl ?_
      exact ⟨_, rfl, q⟩
    · have kn : k < n := by
        by_cases q' : k = n
        · subst q'
          exact absurd ho.one c
        · omega
      refine iteNF (fun z => c (V.int.inj z)) ⟨_, fun _ _ h => h, ?_⟩
      obtain ⟨b1, b2⟩ := pwm_bd (p := 61) (by omega) one k
      refine ⟨_, rfl, _, rfl, _, _, rfl, rfl, .inl ⟨by omega, by omega⟩, _, _, rfl, rfl, (by decide : (0 : Int) < 61), ?_⟩
      refine ⟨_, rfl, _, _, rfl, rfl, ?_⟩
      refine ⟨n - (k + 1), by omega, k + 1, ?_, rfl, by omega, kn, rfl⟩
      rw [pwm_succ]
      rfl
end
end Spw

namespace Spw
open PySem PySem.Spec PyProof.Rows L2 Spm
section
variable {P : Program} {w : World} {K : PySem.W.Frag} {mg : Str → Option Value} {base : Heap}
/-- is_prime -/
def sp_is_prime (K : PySem.W.Frag) (C : Addr) : Sp := fun vs H Q _ => ∃ n : Int, vs = [.int n] ∧ (PrimeP n → Q (.bl true) H) ∧ (¬ PrimeP n → Q (.bl false) H)
theorem ok_is_prime (T : Env K mg) : FnOk P w K mg base CX0 1 T.f_is_prime T.d_is_prime ["number"] (sp_is_prime K T.C) := by
  refine T.F_is_prime.ok sc_is_prime (fun vs H Q E h => ?_) (fun cdv A outer s H vs Q E hr h => ?_)
  · obtain ⟨n, rfl, _⟩ := h
    rfl
  · obtain ⟨n, rfl, qt, qf⟩ := h
    refine ⟨_, (pss_cons (ps_if (pt_not (pt_chain op_le op_le pe_int (pv 0) (pe_glob (v := .int 997) rfl T.c_GREATEST.choose_spec ⟨_, rfl⟩))) (pss_one (ps_ret pe_bl)) pss_nil)
      (pss_cons (ps_for PassesOwn.never rfl (pi_range2 (by rfl) T.n_range (pa_cons pe_int (pa_cons (pv 0) pa_nil))) (pg_name (i := 1) sc_is_prime.nd rfl (Or.inl rfl)) (pss_one (ps_if (PW.pt (pw_and (pt_cmpR op_le (pe_op op_mul (pv 1) (pv 1)) (pv 0) (nomark _)) (pw_and1 (pt_cmpR op_eq (pe_op op_mod (pv 0) (pv 1)) pe_int (nomark _))))) (pss_one (ps_ret pe_bl)) pss_nil)))
      (pss_one (ps_ret pe_bl)))), ?_⟩
    by_cases c1 : 2 ≤ n
    · by_cases c2 : n ≤ 997
      · refine ⟨_, rfl, _, _, rfl, rfl, _, rfl, iteD c1 ⟨_, _, rfl, rfl, _, rfl, iteNS c2 ?_⟩⟩
        refine ⟨_, rfl, _, _, rfl, ⟨by decide, by decide, by omega, by omega⟩, ?_⟩
        refine for_range (lo := 2) (n := (n - 2).toNat) (fun i σ H' => ∃ v, σ = [some (.int n), v] ∧ H' = H ∧ ∀ d : Int, 2 ≤ d → d < 2 + i → ¬ (d * d ≤ n ∧ n % d = 0))
          ⟨none, rfl, rfl, fun d a b => by omega⟩ ?_ ?_
        · rintro i σ H' hi ⟨v, rfl, rfl, hd⟩
          refine ⟨_, rfl, _, rfl, _, _, rfl, rfl, .inl ⟨by omega, by omega⟩, _, rfl, _, _, rfl, rfl, _, rfl, ?_⟩
          by_cases c3 : ((2 : Int) + i) * (2 + i) ≤ n
          · refine iteD c3 ⟨_, rfl, _, rfl, _, _, rfl, rfl, (by show (0 : Int) < 2 + i; omega), rfl, _, rfl, ?_⟩
            by_cases c4 : n % ((2 : Int) + i) = 0
            · refine iteD (congrArg V.int c4) ?_
              exact qf fun hp => hp.2.2 _ (by omega) (by omega) ⟨c3, c4⟩
            · refine iteDF (fun z => c4 (V.int.inj z)) ⟨_, rfl, rfl, fun d a b => ?_⟩
              by_cases e : d = 2 + (i : Int)
              · subst e
                exact fun z => c4 z.2
              · exact hd d a (by omega)
          · refine iteDF c3 ⟨_, rfl, rfl, fun d a b => ?_⟩
            by_cases e : d = 2 + (i : Int)
            · subst e
              exact fun z => c3 z.1
            · exact hd d a (by omega)
        · rintro σ H' ⟨v, rfl, rfl, hd⟩
          exact qt ⟨c1, c2, fun d a b => hd d a (by omega)⟩
      · refine ⟨_, rfl, _, _, rfl, rfl, _, rfl, iteD c1 ⟨_, _, rfl, rfl, _, rfl, iteNF c2 ?_⟩⟩
        exact qf fun hp => c2 hp.2.1
    · refine ⟨_, rfl, _, _, rfl, rfl, _, rfl, iteDF c1 ⟨_, rfl, iteT ?_⟩⟩
      exact qf fun hp => c1 hp.1
end
end Spw

namespace Spw
open PySem PySem.Spec PyProof.Rows L2 Spm
section
variable {P : Program} {w : World} {K : PySem.W.Frag} {mg : Str → Option Value} {base : Heap}
/-- Field(n): the object, or NoPrime -/
def sp_m_init (K : PySem.W.Frag) (C : Addr) (D : Exs) : Sp := fun vs H Q E => ∃ (x dx : Addr) (n : Int), vs = [.ref x, .int n] ∧ H x = some (.ins C dx []) ∧
  (PrimeP n → ∀ H' : Hp, FieldAt C H' x n → (∀ b o, H b = some o → b ≠ x → H' b = some o) → Q .non H') ∧ (¬ PrimeP n → E (.ref D.P) none H)
theorem ok_m_init (T : Env K mg) : FnOk P w K mg base (L2.CX P w) 2 T.f_m_init T.d_m_init ["self", "prime"] (sp_m_init K T.C T.xs) := by
  refine T.F_m_init.okX sc_m_init (fun vs H Q E h => ?_) (fun cdv A outer s H vs Q E hr h => ?_)
  · obtain ⟨x, dx, n, rfl, _⟩ := h
    rfl
  · obtain ⟨x, dx, n, rfl, hx, q, e⟩ := h
    refine ⟨_, (pss_cons (ps_if (pt_not (pt_val (pe_call (ok_is_prime T) (hr.mono (by decide)) (by rfl) T.g_is_prime T.F_is_prime.kp T.b_is_prime .nil pass0 (pa_cons (pv 1) pa_nil)))) (pss_one (ps_raise rfl (takes_of rfl rfl rfl rfl) (pmk_own PySem.F.excBase_ValueError T.X_NoPrime.q T.X_NoPrime.g T.X_NoPrime.k (raises_own T.X_NoPrime.s T.X_NoPrime.t) rfl))) pss_nil)
      (pss_one (ps_fld (pv 0) (pv 1) rfl))), ?_⟩
    refine ⟨_, rfl, n, rfl, fun hp => ?_, fun hn => ?_⟩
    · refine ⟨_, rfl, iteF ?_⟩
      refine ⟨_, rfl, _, rfl, x, T.C, dx, _, rfl, hx, T.cl_C, T.np_C, (by show 0 < 1000; decide), ?_⟩
      exact q hp _ ⟨dx, upd_same⟩ fun b o e hb => by rw [upd_ne hb]; exact e
    · refine ⟨_, rfl, iteT ?_⟩
      exact e hn
end
end Spw

namespace Spw
open PySem PySem.Spec PyProof.Rows L2 Spm
section
variable {P : Program} {w : World} {K : PySem.W.Frag} {mg : Str → Option Value} {base : Heap}
/-- ask, both ways -/
def sp_m_ask (K : PySem.W.Frag) (C : Addr) (D : Exs) : Sp := fun vs H Q E => ∃ (a l : Addr) (p least : Int) (ns : List Int), vs = [.ref a, .ref l, .int least] ∧ FieldAt C H a p ∧ SqL K H l (il ns) ∧
  ((∀ x ∈ ns, least ≤ x ∧ x < p) → Q .non H) ∧ (¬ (∀ x ∈ ns, least ≤ x ∧ x < p) → E (.ref D.R) none H)
theorem ok_m_ask (T : Env K mg) : FnOk P w K mg base (L2.CX P w) 1 T.f_m_ask T.d_m_ask ["self", "some", "least"] (sp_m_ask K T.C T.xs) := by
  refine T.F_m_ask.okX sc_m_ask (fun vs H Q E h => ?_) (fun cdv A outer s H vs Q E hr h => ?_)
  · obtain ⟨a, l, p, least, ns, rfl, _⟩ := h
    rfl
  · obtain ⟨a, l, p, least, ns, rfl, ⟨dx, hF⟩, hL, q, e⟩ := h
    refine ⟨_, (pss_one (ps_for (passes_of rfl) rfl (pi_list (pv 1)) (pg_name (i := 3) sc_m_ask.nd rfl (Or.inl rfl)) (pss_one (ps_if (pt_not (pt_chain op_le op_lt (pv 2) (pv 3) (pe_fld (pv 0) rfl))) (pss_one (ps_raise rfl (takes_of rfl rfl rfl rfl) (pmk_own PySem.F.excBase_ValueError T.X_NoRest.q T.X_NoRest.g T.X_NoRest.k (raises_own T.X_NoRest.s T.X_NoRest.t) rfl))) pss_nil)))), ?_⟩
    refine ⟨_, rfl, l, rfl, ⟨_, hL⟩, for_list (K := K) (a := l) (xs := il ns) (fun i σ H' => ∃ v, σ = [some (.ref a), some (.ref l), some (.int least), v] ∧ H' = H ∧ ∀ x ∈ ns.take i, least ≤ x ∧ x < p)
      ⟨none, rfl, rfl, fun x hx => by simp at hx⟩ (fun i σ H' _ ⟨_, _, e, _⟩ => by rw [e]; exact hL) ?_ ?_⟩
    · rintro i x σ H' hi ⟨v, rfl, rfl, hall⟩
      obtain ⟨z, hz, rfl⟩ := il_at hi
      by_cases h1 : least ≤ z
      · refine ⟨_, rfl, _, rfl, _, _, rfl, rfl, _, rfl, iteD h1 ?_⟩
        by_cases h2 : z < p
        · refine ⟨_, rfl, a, T.C, dx, _, _, rfl, hF, T.cl_C, T.np_C, ff_prime p, _, _, rfl, rfl, _, rfl, iteNS h2 ?_⟩
          refine ⟨_, rfl, rfl, fun y hy => ?_⟩
          rw [List.take_add_one, hz] at hy
          rcases List.mem_append.mp hy with hy | hy
          · exact hall y hy
          · have e2 : y = z := by simpa using hy
            rw [e2]
            exact ⟨h1, h2⟩
        · refine ⟨_, rfl, a, T.C, dx, _, _, rfl, hF, T.cl_C, T.np_C, ff_prime p, _, _, rfl, rfl, _, rfl, iteNF h2 ?_⟩
          exact e fun k => h2 (k z (List.mem_of_getElem? hz)).2
      · refine ⟨_, rfl, _, rfl, _, _, rfl, rfl, _, rfl, iteDF h1 ⟨_, rfl, iteT ?_⟩⟩
        exact e fun k => h1 (k z (List.mem_of_getElem? hz)).1
    · rintro σ H' ⟨v, rfl, rfl, hall⟩
      refine q fun x hx => hall x ?_
      rw [il_len, List.take_of_length_le (Nat.le_refl _)]
      exact hx
end
end Spw

namespace Spw
open PySem PySem.Spec PyProof.Rows L2 Spm
section
variable {P : Program} {w : World} {K : PySem.W.Frag} {mg : Str → Option Value} {base : Heap}
/-- ask_row, its three ways -/
def sp_ask_row (K : PySem.W.Frag) (C : Addr) (D : Exs) : Sp := fun vs H Q E => ∃ (a l : Addr) (p : Int) (row : List Int), vs = [.ref a, .ref l] ∧ FieldAt C H a p ∧ SqL K H l (il row) ∧
  (Rests p row → row ≠ [] → Q .non H) ∧ (¬ Rests p row → E (.ref D.R) none H) ∧ (Rests p row → row = [] → E (.ref D.W) none H)
theorem ok_ask_row (T : Env K mg) : FnOk P w K mg base (L2.CX P w) 2 T.f_ask_row T.d_ask_row ["field", "row"] (sp_ask_row K T.C T.xs) := by
  refine T.F_ask_row.okX sc_ask_row (fun vs H Q E h => ?_) (fun cdv A outer s H vs Q E hr h => ?_)
  · obtain ⟨a, l, p, row, rfl, _⟩ := h
    rfl
  · obtain ⟨a, l, p, row, rfl, hF, hL, q, e1, e2⟩ := h
    obtain ⟨dx, hF'⟩ := id hF
    refine ⟨_, (pss_cons (ps_expr (pe_meth (pv 0) T.cl_C T.h_m_ask (ok_m_ask T) (hr.mono (by decide)) T.b_m_ask .nil (passes_call (takes_of rfl rfl rfl rfl) (fun _ _ _ _ z => z)) (pa_cons (pv 1) (pa_cons pe_int pa_nil))))
      (pss_one (ps_if (pt_cmpR op_eq (pe_callB call_len_seq (by rfl) T.n_len PySem.boot_len (pa_cons (pv 1) pa_nil)) pe_int (nomark _)) (pss_one (ps_raise rfl (takes_of rfl rfl rfl rfl) (pmk_own PySem.F.excBase_ValueError T.X_NoRow.q T.X_NoRow.g T.X_NoRow.k (raises_own T.X_NoRow.s T.X_NoRow.t) rfl))) pss_nil))), ?_⟩
    refine ⟨_, rfl, a, dx, _, rfl, hF', ff_no _ (by decide +kernel), _, rfl, a, l, p, 0, row, rfl, hF, hL, fun hall => ?_, e1⟩
    refine ⟨_, rfl, l, _, rfl, .inl hL, rfl, _, rfl, ?_⟩
    rw [il_len]
    cases row with
    | nil => exact stepT rfl (e2 hall rfl)
    | cons x r => exact stepF (by rw [List.length_cons]; omega) (q hall (fun z => nomatch z))
end
end Spw

namespace Spw
open PySem PySem.Spec PyProof.Rows L2 Spm
section
variable {P : Program} {w : World} {K : PySem.W.Frag} {mg : Str → Option Value} {base : Heap}
/-- order, both ways -/
def sp_m_order (K : PySem.W.Frag) (C : Addr) (D : Exs) : Sp := fun vs H Q E => ∃ (a : Addr) (p : Nat) (one : Int), vs = [.ref a, .int one] ∧ FieldAt C H a p ∧ 2 ≤ p ∧ p ≤ 997 ∧
  (1 ≤ one → one < p → ∃ n, Ord p one n ∧ RInt H Q n) ∧ (¬ (1 ≤ one ∧ one < p) → RE D.R H E)
theorem ok_m_order (T : Env K mg) : FnOk P w K mg base (L2.CX P w) 2 T.f_m_order T.d_m_order ["self", "one"] (sp_m_order K T.C T.xs) := by
  refine T.F_m_order.okX sc_m_order (fun vs H Q E h => ?_) (fun cdv A outer s H vs Q E hr h => ?_)
  · obtain ⟨a, p, one, rfl, _⟩ := h
    rfl
  · obtain ⟨a, p, one, rfl, hF, hp, hp2, qn, e⟩ := h
    obtain ⟨dx, hF'⟩ := id hF
    refine ⟨_, (pss_cons (ps_expr (pe_meth (pv 0) T.cl_C T.h_m_ask (ok_m_ask T) (hr.mono (by decide)) T.b_m_ask .nil (passes_call (takes_of rfl rfl rfl rfl) (fun _ _ _ _ z => z)) (pa_cons (pe_lst (pa_cons (pv 1) pa_nil)) (pa_cons pe_int pa_nil))))
      (pss_cons (ps_set (i := 2) sc_m_order.nd rfl (Or.inl rfl) pe_int)
      (pss_cons (ps_set (i := 3) sc_m_order.nd rfl (Or.inl rfl) (pv 1))
      (pss_cons (ps_while (passes_of rfl) (pt_cmpR op_ne (pv 3) pe_int (nomark _)) (pss_cons (ps_set (i := 3) sc_m_order.nd rfl (Or.inl rfl) (pe_op op_mod (pe_op op_mul (pv 3) (pv 1)) (pe_fld (pv 0) rfl)))
      (pss_one (ps_set (i := 2) sc_m_order.nd rfl (Or.inl rfl) (pe_op op_add (pv 2) pe_int)))))
      (pss_one (ps_ret (pv 2))))))), ?_⟩
    have pp : (0 : Int) < (p : Int) := by omega
    refine ⟨_, rfl, a, dx, _, rfl, hF', ff_no _ (by decide +kernel), _, rfl, le1 _, fun o no => ?_⟩
    have s1 : Same H (upd H o (.lst [.int one])) := same_upd no
    refine ⟨a, o, p, 1, [one], rfl, hF.same s1, sql upd_same, fun k => ?_, fun k => e (fun z => k fun x hx => by rw [List.mem_singleton.mp hx]; exact z) _ s1⟩
    obtain ⟨h0, h1⟩ := k one (List.mem_cons_self ..)
    obtain ⟨n, ho, q⟩ := qn h0 h1
    have one1 : pwm p one 1 = one := by
      unfold pwm
      rw [Int.pow_succ, Int.pow_zero, Int.one_mul, Int.emod_eq_of_lt (by omega) h1]
    refine ⟨_, rfl, fun m σ H' => ∃ (k : Nat), σ = [some (.ref a), some (.int one), some (.int k), some (.int (pwm p one k))] ∧ H' = upd H o (.lst [.int one]) ∧ 0 < k ∧ k ≤ n ∧ m = n - k,
      ⟨n - 1, 1, by rw [one1]; rfl, rfl, by omega, ho.pos, rfl⟩, ?_⟩
    rintro m σ H' ⟨k, rfl, rfl, hk, hkn, rfl⟩
    refine ⟨_, rfl, rfl, _, rfl, ?_⟩
    by_cases c : pwm p one k = 1
    · have e : k = n := by
        by_cases q' : k < n
        · exact absurd c (ho.low k hk q')
        · omega
      subst e
      rw [c]
      refine iteNS rfl ?_
      exact ⟨_, rfl, q _ s1⟩
    · have kn : k < n := by
        by_cases q' : k = n
        · subst q'
          exact absurd ho.one c
        · omega
      refine iteNF (fun z => c (V.int.inj z)) ⟨_, fun _ _ h => h, ?_⟩
      obtain ⟨b1, b2⟩ := pwm_bd (p := p) (by omega) one k
      refine ⟨_, rfl, _, rfl, _, _, rfl, rfl, .inl ⟨by omega, by omega⟩, _, rfl, a, T.C, dx, _, _, rfl, s1 _ _ hF', T.cl_C, T.np_C, ff_prime _, _, _, rfl, rfl, pp, ?_⟩
      refine ⟨_, rfl, _, _, rfl, rfl, ?_⟩
      refine ⟨n - (k + 1), by omega, k + 1, ?_, rfl, by omega, kn, rfl⟩
      rw [pwm_succ]
      rfl
end
end Spw

namespace Spw
open PySem PySem.Spec PyProof.Rows L2 Spm
section
variable {P : Program} {w : World} {K : PySem.W.Frag} {mg : Str → Option Value} {base : Heap}
def sp_ask_all (K : PySem.W.Frag) (C : Addr) (D : Exs) : Sp := fun vs H Q E => AskP K C D vs H E
theorem ok_ask_all (T : Env K mg) : FnOk P w K mg base (L2.CX P w) 3 T.f_ask_all T.d_ask_all ["field", "root", "row"] (sp_ask_all K T.C T.xs) := by
  refine T.F_ask_all.okX sc_ask_all (fun vs H Q E h => ?_) (fun cdv A outer s H vs Q E hr h => ?_)
  · obtain ⟨a, l, p, row, x, rfl, _⟩ := h
    rfl
  · obtain ⟨a, l, p, row, x, rfl, hF, G, hL, e1, e2, e3⟩ := h
    obtain ⟨dx, hF'⟩ := id hF
    have hp := G.two
    have hp2 := G.le
    refine ⟨_, (pss_cons (ps_expr (pe_meth (pv 0) T.cl_C T.h_m_ask (ok_m_ask T) (hr.mono (by decide)) T.b_m_ask .nil (passes_call (takes_of rfl rfl rfl rfl) (fun _ _ _ _ z => z)) (pa_cons (pe_lst (pa_cons (pv 1) pa_nil)) (pa_cons pe_int pa_nil))))
      (pss_cons (ps_expr (pe_call (ok_ask_row T) (hr.mono (by decide)) (by rfl) T.g_ask_row T.F_ask_row.kp T.b_ask_row .nil (passes_call (takes_of rfl rfl rfl rfl) (fun _ _ _ _ z => z)) (pa_cons (pv 0) (pa_cons (pv 2) pa_nil))))
      (pss_one (ps_if (pt_cmpR op_ne (pe_meth (pv 0) T.cl_C T.h_m_order (ok_m_order T) (hr.mono (by decide)) T.b_m_order .nil (passes_call (takes_of rfl rfl rfl rfl) (fun _ _ _ _ z => z)) (pa_cons (pv 1) pa_nil)) (pe_callB call_len_seq (by rfl) T.n_len PySem.boot_len (pa_cons (pv 2) pa_nil)) (nomark _)) (pss_one (ps_raise rfl (takes_of rfl rfl rfl rfl) (pmk_own PySem.F.excBase_ValueError T.X_NoRoot.q T.X_NoRoot.g T.X_NoRoot.k (raises_own T.X_NoRoot.s T.X_NoRoot.t) rfl))) pss_nil)))), ?_⟩
    refine ⟨_, rfl, a, dx, _, rfl, hF', ff_no _ (by decide +kernel), _, rfl, le1 _, fun o no => ?_⟩
    have s1 : Same H (upd H o (.lst [.int x])) := same_upd no
    refine ⟨a, o, p, 1, [x], rfl, hF.same s1, sql upd_same, fun k => ?_, fun k => e1 (.inl fun z => k fun y hy => by rw [List.mem_singleton.mp hy]; exact z) _ s1⟩
    obtain ⟨x0, x1⟩ := k x (List.mem_cons_self ..)
    refine ⟨_, rfl, _, rfl, a, l, p, row, rfl, hF.same s1, s1.seq hL, fun hr ne => ?_, fun hb => e1 (.inr hb) _ s1, fun hr en => e2 x0 x1 en _ s1⟩
    obtain ⟨n, _, ho⟩ := G.has_ord (a := x) x0 x1
    obtain ⟨hn, e⟩ := e3 x0 x1 hr ne
    refine ⟨_, rfl, a, dx, _, rfl, s1 _ _ hF', ff_no _ (by decide +kernel), _, rfl, a, p, x, rfl, hF.same s1, hp, hp2, fun _ _ => ⟨n, ho, fun H2 s2 => ?_⟩, fun z => absurd ⟨x0, x1⟩ z⟩
    have s3 := s1.trans s2
    refine ⟨_, rfl, l, _, rfl, .inl (s3.seq hL), rfl, _, rfl, ?_⟩
    rw [il_len]
    refine iteNF (fun z => hn n ho (by have := V.int.inj z; omega)) ?_
    exact e _ s3
end
end Spw

namespace Spw
open PySem PySem.Spec PyProof.Rows L2 Spm
section
variable {P : Program} {w : World} {K : PySem.W.Frag} {mg : Str → Option Value} {base : Heap}
def sp_turned (K : PySem.W.Frag) (C : Addr) (D : Exs) : Sp := fun vs H Q E => AskP K C D vs H E
theorem ok_turned (T : Env K mg) : FnOk P w K mg base (L2.CX P w) 4 T.f_turned T.d_turned ["field", "root", "row"] (sp_turned K T.C T.xs) := by
  refine T.F_turned.okX sc_turned (fun vs H Q E h => ?_) (fun cdv A outer s H vs Q E hr h => ?_)
  · obtain ⟨a, l, p, row, x, rfl, _⟩ := h
    rfl
  · obtain ⟨a, l, p, row, x, rfl, h⟩ := h
    exact ⟨_, (pss_cons (ps_expr (pe_call (ok_ask_all T) (hr.mono (by decide)) (by rfl) T.g_ask_all T.F_ask_all.kp T.b_ask_all .nil (passes_call (takes_of rfl rfl rfl rfl) (fun _ _ _ _ z => z)) (pa_cons (pv 0) (pa_cons (pv 1) (pa_cons (pv 2) pa_nil)))))
      pss_never), _, rfl, _, rfl, _, rfl, a, l, p, row, x, rfl, h⟩
end
end Spw

namespace Spw
open PySem PySem.Spec PyProof.Rows L2 Spm
section
variable {P : Program} {w : World} {K : PySem.W.Frag} {mg : Str → Option Value} {base : Heap}
def sp_turned_back (K : PySem.W.Frag) (C : Addr) (D : Exs) : Sp := fun vs H Q E => AskP K C D vs H E
theorem ok_turned_back (T : Env K mg) : FnOk P w K mg base (L2.CX P w) 4 T.f_turned_back T.d_turned_back ["field", "root", "row"] (sp_turned_back K T.C T.xs) := by
  refine T.F_turned_back.okX sc_turned_back (fun vs H Q E h => ?_) (fun cdv A outer s H vs Q E hr h => ?_)
  · obtain ⟨a, l, p, row, x, rfl, _⟩ := h
    rfl
  · obtain ⟨a, l, p, row, x, rfl, h⟩ := h
    exact ⟨_, (pss_cons (ps_expr (pe_call (ok_ask_all T) (hr.mono (by decide)) (by rfl) T.g_ask_all T.F_ask_all.kp T.b_ask_all .nil (passes_call (takes_of rfl rfl rfl rfl) (fun _ _ _ _ z => z)) (pa_cons (pv 0) (pa_cons (pv 1) (pa_cons (pv 2) pa_nil)))))
      pss_never), _, rfl, _, rfl, _, rfl, a, l, p, row, x, rfl, h⟩
end
end Spw

namespace Spw
open PySem PySem.Spec PyProof.Rows L2 Spm
section
variable {P : Program} {w : World} {K : PySem.W.Frag} {mg : Str → Option Value} {base : Heap}
/-- _law_no_root: NoRoot -/
def sp_l_no_root (K : PySem.W.Frag) (C : Addr) (D : Exs) : Sp := fun vs H Q E => ∃ (a : Addr) (cell : Int), vs = [.ref a, .int cell] ∧ FieldAt C H a ((13 : Nat) : Int) ∧ RE D.Z H E
theorem ok_l_no_root (T : Env K mg) : FnOk P w K mg base (L2.CX P w) 5 T.f_l_no_root T.d_l_no_root ["field", "cell"] (sp_l_no_root K T.C T.xs) := by
  refine T.F_l_no_root.okX sc_l_no_root (fun vs H Q E h => ?_) (fun cdv A outer s H vs Q E hr h => ?_)
  · obtain ⟨a, cell, rfl, _⟩ := h
    rfl
  · obtain ⟨a, cell, rfl, hF, e⟩ := h
    refine ⟨_, (pss_cons (ps_set (i := 2) sc_l_no_root.nd rfl (Or.inl rfl) (pe_lst (pa_cons pe_int (pa_cons pe_int (pa_cons pe_int (pa_cons pe_int pa_nil))))))
      (pss_cons (ps_set (i := 3) sc_l_no_root.nd rfl (Or.inl rfl) (pe_ix ix_list (pe_lst (pa_cons pe_int (pa_cons pe_int (pa_cons pe_int (pa_cons pe_int (pa_cons pe_int (pa_cons pe_int (pa_cons pe_int (pa_cons pe_int (pa_cons pe_int (pa_cons pe_int pa_nil))))))))))) (pe_op op_mod (pe_op op_fdiv (pv 1) pe_int) pe_int) (fun _ _ => rfl)))
      (pss_cons (ps_if (pt_cmpR op_gt (pe_op op_mod (pe_op op_fdiv (pv 1) pe_int) pe_int) pe_int (nomark _)) (pss_cons (ps_set (i := 0) sc_l_no_root.nd rfl (Or.inl rfl) (pe_make T.M_C (ok_m_init T) (hr.mono (by decide)) (by rfl) T.g_C T.b_m_init .nil (passes_call (takes_of rfl rfl rfl rfl) (fun _ _ _ _ z => z)) (pa_cons pe_int pa_nil)))
      (pss_cons (ps_set (i := 2) sc_l_no_root.nd rfl (Or.inl rfl) (pe_listRg rfl (by rfl) T.n_list (prg_1 (by rfl) T.n_range (pe_ix ix_list (pe_lst (pa_cons pe_int (pa_cons pe_int (pa_cons pe_int (pa_cons pe_int (pa_cons pe_int (pa_cons pe_int (pa_cons pe_int (pa_cons pe_int pa_nil))))))))) (pe_op op_mod (pe_op op_fdiv (pv 1) pe_int) pe_int) (fun _ _ => rfl)))))
      (pss_cons (ps_set (i := 3) sc_l_no_root.nd rfl (Or.inl rfl) (pe_op op_add pe_int (pe_op op_mod (pe_op op_fdiv (pv 1) pe_int) pe_int)))
      (pss_one (ps_while (passes_of rfl) (pt_cmpR op_eq (pe_call (ok_l_order T) (hr.mono (by decide)) (by rfl) T.g_l_order T.F_l_order.kp T.b_l_order .nil pass0 (pa_cons (pv 3) pa_nil)) (pe_callB call_len_seq (by rfl) T.n_len PySem.boot_len (pa_cons (pv 2) pa_nil)) (nomark _)) (pss_one (ps_set (i := 3) sc_l_no_root.nd rfl (Or.inl rfl) (pe_op op_add pe_int (pe_op op_mod (pv 3) pe_int))))))))) pss_nil)
      (pss_one (ps_if (pt_cmpR op_eq (pe_op op_mod (pv 1) pe_int) pe_int (nomark _)) (pss_one (ps_expr (pe_call (ok_turned T) (hr.mono (by decide)) (by rfl) T.g_turned T.F_turned.kp T.b_turned .nil (passes_call (takes_of rfl rfl rfl rfl) (fun _ _ _ _ z => z)) (pa_cons (pv 0) (pa_cons (pv 3) (pa_cons (pv 2) pa_nil)))))) (pss_one (ps_expr (pe_call (ok_turned_back T) (hr.mono (by decide)) (by rfl) T.g_turned_back T.F_turned_back.kp T.b_turned_back .nil (passes_call (takes_of rfl rfl rfl rfl) (fun _ _ _ _ z => z)) (pa_cons (pv 0) (pa_cons (pv 3) (pa_cons (pv 2) pa_nil))))))))))), ?_⟩
    refine ⟨line_le (by show 4 ≤ 1000; decide), fun l nl => ?_⟩
    have s1 := same_upd (o := .lst [.int 1, .int 2, .int 3, .int 4]) nl
    refine ⟨line_le (by show 10 ≤ 1000; decide), fun m nm => ?_⟩
    have s2 := same_upd (o := .lst [.int 1, .int 2, .int 3, .int 4, .int 6, .int 7, .int 9, .int 10, .int 11, .int 12]) nm
    obtain ⟨x0, ⟨x1, x2, x3⟩, hat⟩ := menu13 (c := cell / 2 % 10) (by omega) (by omega)
    refine ⟨_, rfl, _, _, rfl, rfl, ⟨by decide, by decide⟩, _, _, rfl, rfl, (by decide : (0 : Int) < 10), m, _, _, _, rfl, rfl, sql upd_same, hat, ?_⟩
    have s12 := s1.trans s2
    have hL : SqL K (upd (upd H l (.lst [.int 1, .int 2, .int 3, .int 4])) m (.lst [.int 1, .int 2, .int 3, .int 4, .int 6, .int 7, .int 9, .int 10, .int 11, .int 12])) l (il [1, 2, 3, 4]) := sql (s2 _ _ upd_same)
    have hF2 := hF.same s12
    refine ⟨_, rfl, _, _, rfl, rfl, ⟨by decide, by decide⟩, _, _, rfl, rfl, (by decide : (0 : Int) < 3), _, _, rfl, rfl, _, rfl, ?_⟩
    refine' shareR (NoR K T.C H) (fun main => ?way) ?on
    case way =>
      by_cases c1 : (0 : Int) < cell / 20 % 3
      · refine iteD c1 ?_
        refine fun x dx nx ndx nex => ⟨x, dx, 61, rfl, upd_same, fun hp H2 hF2 kk => ⟨rfl, ?_⟩, fun z => absurd prime61 z⟩
        have s3 := Same.made nx ndx kk
        refine ⟨line_le (by show 8 ≤ 1000; decide), fun u nu => ?_⟩
        have s4 := same_upd (o := .lst [.int 6, .int 4, .int 12, .int 15, .int 20, .int 10, .int 30, .int 3]) nu
        obtain ⟨N, ⟨n1, n2⟩, hat2⟩ := menu61 (c := cell / 60 % 8) (by omega) (by omega)
        refine ⟨_, rfl, _, _, rfl, rfl, ⟨by decide, by decide⟩, _, _, rfl, rfl, (by decide : (0 : Int) < 8), u, _, _, _, rfl, rfl, sql upd_same, hat2, ?_⟩
        refine ⟨_, rfl, RgOk.of_le (by decide) (by omega) (by decide) (by omega), fun o no => ?_⟩
        rw [upI_rg]
        have s5 := same_upd (o := .lst (il (upI N))) no
        have hO : (upd (upd H2 u (.lst [.int 6, .int 4, .int 12, .int 15, .int 20, .int 10, .int 30, .int 3])) o (.lst (il (upI N)))) o = some (.lst (il (upI N))) := upd_same
        have st := ((s12.trans s3).trans s4).trans s5
        have hF3 := FieldAt.same (s4.trans s5) hF2
        refine ⟨_, rfl, _, _, rfl, rfl, ⟨by decide, by decide⟩, _, _, rfl, rfl, (by decide : (0 : Int) < 60), _, _, rfl, rfl, ?_⟩
        refine ⟨fun m σ H' => ∃ root : Int, σ = [some (.ref x), some (.int cell), some (.ref o), some (.int root)] ∧ H' = upd (upd H2 u (.lst [.int 6, .int 4, .int 12, .int 15, .int 20, .int 10, .int 30, .int 3])) o (.lst (il (upI N))) ∧ 1 ≤ root ∧ root ≤ 60 ∧ m = (if root = 1 then (0 : Int) else 61 - root).toNat,
          ⟨_, _, rfl, rfl, (by omega : (1 : Int) ≤ 1 + cell / 480 % 60), by omega, rfl⟩, ?_⟩
        rintro m σ H' ⟨root, rfl, rfl, r0, r1, rfl⟩
        obtain ⟨n, _, ho⟩ := good61.has_ord (a := root) (by omega) (by show root < 61; omega)
        refine ⟨_, rfl, n, root, rfl, r0, by omega, ho, _, rfl, o, _, rfl, .inl (sql hO), rfl, _, rfl, ?_⟩
        rw [il_len, upI_len]
        by_cases c : n = N
        · refine stepT (by omega) ⟨_, fun _ _ h => h, ?_⟩
          have r2 : root ≠ 1 := fun z => by
            subst z
            have := ord_one (by decide) ho
            omega
          refine ⟨_, rfl, _, _, rfl, rfl, (by decide : (0 : Int) < 60), _, _, rfl, rfl, ?_⟩
          refine ⟨_, ?_, _, rfl, rfl, (by omega : (1 : Int) ≤ 1 + root % 60), by omega, rfl⟩
          by_cases c6 : root = 60
          · subst c6
            decide
          · have e6 : root % 60 = root := Int.emod_eq_of_lt (by omega) (by omega)
            rw [e6, if_neg r2, if_neg (by omega)]
            omega
        · refine stepF (by omega) ?_
          refine (fun h : ∀ (f l : Addr) (z : Int) (H2 : Hp), NoR K T.C H f l z H2 → tSeq _ _ _ [some (.ref f), some (.int cell), some (.ref l), some (.int z)] H2 => h x o root _ ⟨st, 61, upI N, hF3, good61, sql hO, r0, by show root < 61; omega, upI_rests (by omega), (fun z => by have := upI_len N; rw [z] at this; simp at this; omega), fun k hk => by rw [upI_len]; exact fun z => c (by rw [← z]; exact ho.uniq hk)⟩) ?_
          exact fun f l z H2 h => main f l z H2 h
      · refine iteDF c1 ?_
        refine (fun h : ∀ (f l : Addr) (z : Int) (H2 : Hp), NoR K T.C H f l z H2 → tSeq _ _ _ [some (.ref f), some (.int cell), some (.ref l), some (.int z)] H2 => h a l x0 _ ⟨s12, 13, [1, 2, 3, 4], hF2, good13, hL, x1, x2, by intro x hx; simp at hx <;> omega, (fun z => nomatch z), x3⟩) ?_
        exact fun f l z H2 h => main f l z H2 h
    case on =>
      rintro f l z H2 ⟨st, p, row, hF4, G, hL4, z0, z1, hr4, ne, hn⟩
      refine ⟨_, rfl, _, _, rfl, rfl, (by decide : (0 : Int) < 2), rfl, _, rfl, ?_⟩
      have fin : AskP K T.C T.xs [.ref f, .int z, .ref l] H2 E := ⟨f, l, p, row, z, rfl, hF4, G, hL4, fun k => k.elim (fun k => absurd ⟨z0, z1⟩ k) (fun k => absurd hr4 k), fun _ _ en => absurd en ne, fun _ _ _ _ => ⟨hn, e.on st⟩⟩
      by_cases c2 : cell % 2 = 0
      · exact stepT c2 ⟨_, rfl, _, rfl, _, rfl, fin⟩
      · exact stepF c2 ⟨_, rfl, _, rfl, _, rfl, fin⟩
end
end Spw

namespace Spw
open PySem PySem.Spec PyProof.Rows L2 Spm
section
variable {P : Program} {w : World} {K : PySem.W.Frag} {mg : Str → Option Value} {base : Heap}
/-- ask_figures, of figures alone -/
def sp_ask_figures (K : PySem.W.Frag) (C : Addr) (D : Exs) : Sp := fun vs H Q E => ∃ (l : Addr) (ns : List Int), vs = [.ref l] ∧ SqL K H l (il ns) ∧ Rests 10 ns ∧ (ns ≠ [] → Q .non H) ∧ (ns = [] → E (.ref D.W) none H)
theorem ok_ask_figures (T : Env K mg) : FnOk P w K mg base (L2.CX P w) 1 T.f_ask_figures T.d_ask_figures ["some"] (sp_ask_figures K T.C T.xs) := by
  refine T.F_ask_figures.okX sc_ask_figures (fun vs H Q E h => ?_) (fun cdv A outer s H vs Q E hr h => ?_)
  · obtain ⟨l, ns, rfl, _⟩ := h
    rfl
  · obtain ⟨l, ns, rfl, hL, hall, q, e⟩ := h
    refine ⟨_, (pss_cons (ps_for (passes_of rfl) rfl (pi_list (pv 0)) (pg_name (i := 1) sc_ask_figures.nd rfl (Or.inl rfl)) (pss_one (ps_if (pt_not (pt_chain op_le op_le pe_int (pv 1) pe_int)) (pss_one (ps_raise rfl (takes_of rfl rfl rfl rfl) (pmk_own PySem.F.excBase_ValueError T.X_NoRest.q T.X_NoRest.g T.X_NoRest.k (raises_own T.X_NoRest.s T.X_NoRest.t) rfl))) pss_nil)))
      (pss_one (ps_if (pt_cmpR op_eq (pe_callB call_len_seq (by rfl) T.n_len PySem.boot_len (pa_cons (pv 0) pa_nil)) pe_int (nomark _)) (pss_one (ps_raise rfl (takes_of rfl rfl rfl rfl) (pmk_own PySem.F.excBase_ValueError T.X_NoRow.q T.X_NoRow.g T.X_NoRow.k (raises_own T.X_NoRow.s T.X_NoRow.t) rfl))) pss_nil))), ?_⟩
    refine ⟨_, rfl, l, rfl, ⟨_, hL⟩, for_list (K := K) (a := l) (xs := il ns) (fun i σ H' => ∃ v, σ = [some (.ref l), v] ∧ H' = H)
      ⟨none, rfl, rfl⟩ (fun i σ H' _ ⟨_, _, e⟩ => by rw [e]; exact hL) ?_ ?_⟩
    · rintro i x σ H' hi ⟨v, rfl, rfl⟩
      obtain ⟨z, hz, rfl⟩ := il_at hi
      obtain ⟨h1, h2⟩ := hall z (List.mem_of_getElem? hz)
      refine ⟨_, rfl, _, _, rfl, rfl, _, rfl, iteD h1 ⟨_, _, rfl, rfl, _, rfl, iteNS (show z ≤ 9 by omega) ?_⟩⟩
      exact ⟨_, rfl, rfl⟩
    · rintro σ H' ⟨v, rfl, rfl⟩
      refine ⟨_, rfl, l, _, rfl, .inl hL, rfl, _, rfl, ?_⟩
      rw [il_len]
      cases ns with
      | nil => exact stepT rfl (e rfl)
      | cons x r => exact stepF (by rw [List.length_cons]; omega) (q (fun z => nomatch z))
end
end Spw

namespace Spw
open PySem PySem.Spec PyProof.Rows L2 Spm
section
variable {P : Program} {w : World} {K : PySem.W.Frag} {mg : Str → Option Value} {base : Heap}
/-- long_product, of no figures or empty -/
def sp_long_product (K : PySem.W.Frag) (C : Addr) (D : Exs) : Sp := fun vs H Q E => ∃ (l m : Addr) (A B : List Int), vs = [.ref l, .ref m] ∧ SqL K H l (il A) ∧ SqL K H m (il B) ∧
  (¬ Rests 10 A ∨ ¬ Rests 10 B → RE D.R H E) ∧ (Rests 10 A → Rests 10 B → (A = [] ∨ B = []) ∧ RE D.W H E)
theorem ok_long_product (T : Env K mg) : FnOk P w K mg base (L2.CX P w) 2 T.f_long_product T.d_long_product ["one", "other"] (sp_long_product K T.C T.xs) := by
  refine T.F_long_product.okX sc_long_product (fun vs H Q E h => ?_) (fun cdv A outer s H vs Q E hr h => ?_)
  · obtain ⟨l, m, A, B, rfl, _⟩ := h
    rfl
  · obtain ⟨l, m, A, B, rfl, hA, hB, q1, q2⟩ := h
    refine ⟨_, (pss_cons (ps_for (passes_of rfl) rfl (pi_tup (pe_tup (pa_cons (pv 0) (pa_cons (pv 1) pa_nil)))) (pg_name (i := 2) sc_long_product.nd rfl (Or.inl rfl)) (pss_one (ps_for (passes_of rfl) rfl (pi_list (pv 2)) (pg_name (i := 3) sc_long_product.nd rfl (Or.inl rfl)) (pss_one (ps_if (pt_not (pt_chain op_le op_le pe_int (pv 3) pe_int)) (pss_one (ps_raise rfl (takes_of rfl rfl rfl rfl) (pmk_own PySem.F.excBase_ValueError T.X_NoRest.q T.X_NoRest.g T.X_NoRest.k (raises_own T.X_NoRest.s T.X_NoRest.t) rfl))) pss_nil)))))
      (pss_cons (ps_expr (pe_call (ok_ask_figures T) (hr.mono (by decide)) (by rfl) T.g_ask_figures T.F_ask_figures.kp T.b_ask_figures .nil (passes_call (takes_of rfl rfl rfl rfl) (fun _ _ _ _ z => z)) (pa_cons (pv 0) pa_nil)))
      (pss_cons (ps_expr (pe_call (ok_ask_figures T) (hr.mono (by decide)) (by rfl) T.g_ask_figures T.F_ask_figures.kp T.b_ask_figures .nil (passes_call (takes_of rfl rfl rfl rfl) (fun _ _ _ _ z => z)) (pa_cons (pv 1) pa_nil)))
      pss_never))), ?_⟩
    refine ⟨_, rfl, _, rfl, le2 _ _, fun t nt => ?_⟩
    have e1 := same_upd (o := .tup [.ref l, .ref m]) nt
    have hT : (upd H t (.tup [.ref l, .ref m])) t = some (.tup [.ref l, .ref m]) := upd_same
    generalize upd H t (.tup [.ref l, .ref m]) = H1 at e1 hT ⊢
    have hA1 := e1.seq hA
    have hB1 := e1.seq hB
    refine ⟨t, rfl, ⟨_, sqt hT⟩, for_tup (K := K) (a := t) (xs := [.ref l, .ref m]) (fun i σ H' => ∃ v2 v3, σ = [some (.ref l), some (.ref m), v2, v3, none, none, none, none, none, none, none] ∧ H' = H1 ∧ (0 < i → Rests 10 A) ∧ (1 < i → Rests 10 B)) ⟨none, none, rfl, rfl, fun z => absurd z (by omega), fun z => absurd z (by omega)⟩ (fun i σ H' _ ⟨_, _, _, e, _⟩ => by rw [e]; exact sqt hT) ?_ ?_⟩
    · rintro i x σ H' hi ⟨v2, v3, rfl, rfl, i1, i2⟩
      obtain ⟨r, R, rfl, hR, hb, hg⟩ : ∃ r R, x = V.ref r ∧ SqL K H' r (il R) ∧ (¬ Rests 10 R → ¬ Rests 10 A ∨ ¬ Rests 10 B) ∧ (Rests 10 R → (0 < i + 1 → Rests 10 A) ∧ (1 < i + 1 → Rests 10 B)) := by
        match i, hi, i1 with
        | 0, h, _ => exact ⟨l, A, (Option.some.inj h).symm, hA1, .inl, fun g => ⟨fun _ => g, fun z => absurd z (by omega)⟩⟩
        | 1, h, i1 => exact ⟨m, B, (Option.some.inj h).symm, hB1, .inr, fun g => ⟨fun _ => i1 (by omega), fun _ => g⟩⟩
        | i + 2, h, _ => exact absurd h (by simp)
      refine ⟨_, rfl, r, rfl, ⟨_, hR⟩, for_list (K := K) (a := r) (xs := il R) (fun i σ H2 => ∃ v3, σ = [some (.ref l), some (.ref m), some (.ref r), v3, none, none, none, none, none, none, none] ∧ H2 = H' ∧ ∀ x ∈ R.take i, 0 ≤ x ∧ x < 10) ⟨v3, rfl, rfl, fun x hx => by simp at hx⟩ (fun i σ H' _ ⟨_, _, e, _⟩ => by rw [e]; exact hR) ?_ ?_⟩
      · rintro i x σ H2 hi ⟨v, rfl, rfl, hall⟩
        obtain ⟨z, hz, rfl⟩ := il_at hi
        by_cases h1 : 0 ≤ z
        · refine ⟨_, rfl, _, _, rfl, rfl, _, rfl, iteD h1 ⟨_, _, rfl, rfl, _, rfl, ?_⟩⟩
          by_cases h2 : z ≤ 9
          · refine iteNS h2 ?_
            refine ⟨_, rfl, rfl, fun y hy => ?_⟩
            rw [List.take_add_one, hz] at hy
            rcases List.mem_append.mp hy with hy | hy
            · exact hall y hy
            · have e2 : y = z := by simpa using hy
              rw [e2]
              exact ⟨h1, by omega⟩
          · refine iteNF h2 ?_
            exact q1 (hb fun k => h2 (by have := (k z (List.mem_of_getElem? hz)).2; omega)) _ e1
        · refine ⟨_, rfl, _, _, rfl, rfl, _, rfl, iteDF h1 ⟨_, rfl, iteT ?_⟩⟩
          exact q1 (hb fun k => h1 (k z (List.mem_of_getElem? hz)).1) _ e1
      · rintro σ H2 ⟨v, rfl, rfl, hall⟩
        rw [il_len, List.take_of_length_le (Nat.le_refl _)] at hall
        exact ⟨_, _, rfl, rfl, hg hall⟩
    rintro σ H' ⟨v2, v3, rfl, rfl, i1, i2⟩
    have fA := i1 (show 0 < 2 by decide)
    have fB := i2 (show 1 < 2 by decide)
    obtain ⟨hn, e⟩ := q2 fA fB
    refine ⟨_, rfl, l, A, rfl, hA1, fA, fun nA => ?_, fun _ => e _ e1⟩
    refine ⟨_, rfl, m, B, rfl, hB1, fB, fun nB => (hn.elim nA nB).elim, fun _ => e _ e1⟩
end
end Spw

namespace Spw
open PySem PySem.Spec PyProof.Rows L2 Spm
section
variable {P : Program} {w : World} {K : PySem.W.Frag} {mg : Str → Option Value} {base : Heap}
/-- ask_both, its three ways -/
def sp_ask_both (K : PySem.W.Frag) (C : Addr) (D : Exs) : Sp := fun vs H Q E => ∃ (a l m : Addr) (p : Int) (A B : List Int), vs = [.ref a, .ref l, .ref m] ∧ FieldAt C H a p ∧ SqL K H l (il A) ∧ SqL K H m (il B) ∧
  (Rests p A → Rests p B → A ≠ [] → B ≠ [] → Q .non H) ∧ (¬ Rests p A ∨ ¬ Rests p B → E (.ref D.R) none H) ∧ (Rests p A → Rests p B → A = [] ∨ B = [] → E (.ref D.W) none H)
theorem ok_ask_both (T : Env K mg) : FnOk P w K mg base (L2.CX P w) 3 T.f_ask_both T.d_ask_both ["field", "one", "other"] (sp_ask_both K T.C T.xs) := by
  refine T.F_ask_both.okX sc_ask_both (fun vs H Q E h => ?_) (fun cdv A outer s H vs Q E hr h => ?_)
  · obtain ⟨a, l, m, p, A, B, rfl, _⟩ := h
    rfl
  · obtain ⟨a, l, m, p, A, B, rfl, hF, hL, hM, q, e1, e2⟩ := h
    obtain ⟨dx, hF'⟩ := id hF
    refine ⟨_, (pss_cons (ps_expr (pe_meth (pv 0) T.cl_C T.h_m_ask (ok_m_ask T) (hr.mono (by decide)) T.b_m_ask .nil (passes_call (takes_of rfl rfl rfl rfl) (fun _ _ _ _ z => z)) (pa_cons (pv 1) (pa_cons pe_int pa_nil))))
      (pss_cons (ps_expr (pe_meth (pv 0) T.cl_C T.h_m_ask (ok_m_ask T) (hr.mono (by decide)) T.b_m_ask .nil (passes_call (takes_of rfl rfl rfl rfl) (fun _ _ _ _ z => z)) (pa_cons (pv 2) (pa_cons pe_int pa_nil))))
      (pss_cons (ps_expr (pe_call (ok_ask_row T) (hr.mono (by decide)) (by rfl) T.g_ask_row T.F_ask_row.kp T.b_ask_row .nil (passes_call (takes_of rfl rfl rfl rfl) (fun _ _ _ _ z => z)) (pa_cons (pv 0) (pa_cons (pv 1) pa_nil))))
      (pss_one (ps_expr (pe_call (ok_ask_row T) (hr.mono (by decide)) (by rfl) T.g_ask_row T.F_ask_row.kp T.b_ask_row .nil (passes_call (takes_of rfl rfl rfl rfl) (fun _ _ _ _ z => z)) (pa_cons (pv 0) (pa_cons (pv 2) pa_nil)))))))), ?_⟩
    refine ⟨_, rfl, a, dx, _, rfl, hF', ff_no _ (by decide +kernel), _, rfl, a, l, p, 0, A, rfl, hF, hL, fun hA => ?_, fun z => e1 (.inl z)⟩
    refine ⟨_, rfl, a, dx, _, rfl, hF', ff_no _ (by decide +kernel), _, rfl, a, m, p, 0, B, rfl, hF, hM, fun hB => ?_, fun z => e1 (.inr z)⟩
    refine ⟨_, rfl, _, rfl, a, l, p, A, rfl, hF, hL, fun _ nA => ?_, fun z => absurd hA z, fun _ z => e2 hA hB (.inl z)⟩
    exact ⟨_, rfl, _, rfl, a, m, p, B, rfl, hF, hM, fun _ nB => q hA hB nA nB, fun z => absurd hB z, fun _ z => e2 hA hB (.inr z)⟩
end
end Spw

namespace Spw
open PySem PySem.Spec PyProof.Rows L2 Spm
section
variable {P : Program} {w : World} {K : PySem.W.Frag} {mg : Str → Option Value} {base : Heap}
/-- plain_product, of bad or empty rows -/
def sp_plain_product (K : PySem.W.Frag) (C : Addr) (D : Exs) : Sp := fun vs H Q E => ∃ (a l m : Addr) (p : Int) (A B : List Int), vs = [.ref a, .ref l, .ref m] ∧ FieldAt C H a p ∧ SqL K H l (il A) ∧ SqL K H m (il B) ∧
  (¬ Rests p A ∨ ¬ Rests p B → RE D.R H E) ∧ (Rests p A → Rests p B → (A = [] ∨ B = []) ∧ RE D.W H E)
theorem ok_plain_product (T : Env K mg) : FnOk P w K mg base (L2.CX P w) 4 T.f_plain_product T.d_plain_product ["field", "one", "other"] (sp_plain_product K T.C T.xs) := by
  refine T.F_plain_product.okX sc_plain_product (fun vs H Q E h => ?_) (fun cdv A outer s H vs Q E hr h => ?_)
  · obtain ⟨a, l, m, p, A, B, rfl, _⟩ := h
    rfl
  · obtain ⟨a, l, m, p, A, B, rfl, hF, hL, hM, e1, e2⟩ := h
    exact ⟨_, (pss_cons (ps_expr (pe_call (ok_ask_both T) (hr.mono (by decide)) (by rfl) T.g_ask_both T.F_ask_both.kp T.b_ask_both .nil (passes_call (takes_of rfl rfl rfl rfl) (fun _ _ _ _ z => z)) (pa_cons (pv 0) (pa_cons (pv 1) (pa_cons (pv 2) pa_nil)))))
      pss_never), _, rfl, _, rfl, _, rfl, a, l, m, p, A, B, rfl, hF, hL, hM, fun hA hB nA nB => ((e2 hA hB).1.elim nA nB).elim, fun z => (e1 z).here, fun hA hB _ => (e2 hA hB).2.here⟩
end
end Spw

namespace Spw
open PySem PySem.Spec PyProof.Rows L2 Spm
section
variable {P : Program} {w : World} {K : PySem.W.Frag} {mg : Str → Option Value} {base : Heap}
/-- ring_product, of bad, empty or unlike rows -/
def sp_ring_product (K : PySem.W.Frag) (C : Addr) (D : Exs) : Sp := fun vs H Q E => ∃ (a l m : Addr) (p : Int) (A B : List Int), vs = [.ref a, .ref l, .ref m] ∧ FieldAt C H a p ∧ SqL K H l (il A) ∧ SqL K H m (il B) ∧
  (¬ Rests p A ∨ ¬ Rests p B → RE D.R H E) ∧ (Rests p A → Rests p B → (A = [] ∨ B = [] ∨ A.length ≠ B.length) ∧ RE D.W H E)
theorem ok_ring_product (T : Env K mg) : FnOk P w K mg base (L2.CX P w) 4 T.f_ring_product T.d_ring_product ["field", "one", "other"] (sp_ring_product K T.C T.xs) := by
  refine T.F_ring_product.okX sc_ring_product (fun vs H Q E h => ?_) (fun cdv A outer s H vs Q E hr h => ?_)
  · obtain ⟨a, l, m, p, A, B, rfl, _⟩ := h
    rfl
  · obtain ⟨a, l, m, p, A, B, rfl, hF, hL, hM, e1, e2⟩ := h
    refine ⟨_, (pss_cons (ps_expr (pe_call (ok_ask_both T) (hr.mono (by decide)) (by rfl) T.g_ask_both T.F_ask_both.kp T.b_ask_both .nil (passes_call (takes_of rfl rfl rfl rfl) (fun _ _ _ _ z => z)) (pa_cons (pv 0) (pa_cons (pv 1) (pa_cons (pv 2) pa_nil)))))
      (pss_cons (ps_if (pt_cmpR op_ne (pe_callB call_len_seq (by rfl) T.n_len PySem.boot_len (pa_cons (pv 1) pa_nil)) (pe_callB call_len_seq (by rfl) T.n_len PySem.boot_len (pa_cons (pv 2) pa_nil)) (nomark _)) (pss_one (ps_raise rfl (takes_of rfl rfl rfl rfl) (pmk_own PySem.F.excBase_ValueError T.X_NoRow.q T.X_NoRow.g T.X_NoRow.k (raises_own T.X_NoRow.s T.X_NoRow.t) rfl))) pss_nil)
      pss_never)), _, rfl, _, rfl, _, rfl, a, l, m, p, A, B, rfl, hF, hL, hM, fun hA hB nA nB => ?_, fun z => (e1 z).here, fun hA hB _ => (e2 hA hB).2.here⟩
    obtain ⟨hn, e⟩ := e2 hA hB
    have hne : A.length ≠ B.length := (hn.resolve_left nA).resolve_left nB
    refine ⟨_, rfl, l, _, rfl, .inl hL, _, rfl, m, _, rfl, .inl hM, rfl, _, rfl, ?_⟩
    rw [il_len, il_len]
    exact iteNF (fun z => hne (by have := V.int.inj z; omega)) e.here
end
end Spw

namespace Spw
open PySem PySem.Spec PyProof.Rows L2 Spm
section
variable {P : Program} {w : World} {K : PySem.W.Frag} {mg : Str → Option Value} {base : Heap}
/-- _law_two, of bad, empty or unlike rows -/
def sp_l_two (K : PySem.W.Frag) (C : Addr) (D : Exs) : Sp := fun vs H Q E => ∃ (a l m : Addr) (p way turn r : Int) (A B : List Int), vs = [.int way, .ref a, .ref l, .ref m, .int turn] ∧ FieldAt C H a p ∧ SqL K H l (il A) ∧ SqL K H m (il B) ∧ (turn = 0 ∨ turn = 1) ∧
  (way = 0 ∧ r = p ∨ way = 1 ∧ r = p ∨ way = 2 ∧ r = 10) ∧ (¬ Rests r A ∨ ¬ Rests r B → RE D.R H E) ∧ (Rests r A → Rests r B → (A = [] ∨ B = [] ∨ way = 0 ∧ A.length ≠ B.length) ∧ RE D.W H E)
theorem ok_l_two (T : Env K mg) : FnOk P w K mg base (L2.CX P w) 5 T.f_l_two T.d_l_two ["way", "field", "one", "other", "turn"] (sp_l_two K T.C T.xs) := by
  refine T.F_l_two.okX sc_l_two (fun vs H Q E h => ?_) (fun cdv A outer s H vs Q E hr h => ?_)
  · obtain ⟨a, l, m, p, way, turn, r, A, B, rfl, _⟩ := h
    rfl
  · obtain ⟨a, l, m, p, way, turn, r, A, B, rfl, hF, hL, hM, ht, hw, q1, q2⟩ := h
    refine ⟨_, (pss_cons (ps_set (i := 5) sc_l_two.nd rfl (Or.inl rfl) (pe_ix ix_list (pe_lst (pa_cons (pe_lst (pa_cons (pv 2) (pa_cons (pv 3) pa_nil))) (pa_cons (pe_lst (pa_cons (pv 3) (pa_cons (pv 2) pa_nil))) pa_nil))) (pv 4) (fun _ _ => rfl)))
      (pss_one (ps_if (pt_cmpR op_eq (pv 0) pe_int (nomark _)) (pss_one (ps_expr (pe_call (ok_ring_product T) (hr.mono (by decide)) (by rfl) T.g_ring_product T.F_ring_product.kp T.b_ring_product .nil (passes_call (takes_of rfl rfl rfl rfl) (fun _ _ _ _ z => z)) (pa_cons (pv 1) (pa_cons (pe_ix ix_list (pv 5) pe_int (fun _ _ => rfl)) (pa_cons (pe_ix ix_list (pv 5) pe_int (fun _ _ => rfl)) pa_nil)))))) (pss_one (ps_if (pt_cmpR op_eq (pv 0) pe_int (nomark _)) (pss_one (ps_expr (pe_call (ok_plain_product T) (hr.mono (by decide)) (by rfl) T.g_plain_product T.F_plain_product.kp T.b_plain_product .nil (passes_call (takes_of rfl rfl rfl rfl) (fun _ _ _ _ z => z)) (pa_cons (pv 1) (pa_cons (pe_ix ix_list (pv 5) pe_int (fun _ _ => rfl)) (pa_cons (pe_ix ix_list (pv 5) pe_int (fun _ _ => rfl)) pa_nil)))))) (pss_one (ps_expr (pe_call (ok_long_product T) (hr.mono (by decide)) (by rfl) T.g_long_product T.F_long_product.kp T.b_long_product .nil (passes_call (takes_of rfl rfl rfl rfl) (fun _ _ _ _ z => z)) (pa_cons (pe_ix ix_list (pv 5) pe_int (fun _ _ => rfl)) (pa_cons (pe_ix ix_list (pv 5) pe_int (fun _ _ => rfl)) pa_nil)))))))))), ?_⟩
    refine ⟨_, rfl, _, rfl, le2 _ _, fun u nu => ?_⟩
    refine ⟨_, rfl, _, rfl, le2 _ _, fun v nv => ?_⟩
    refine ⟨le2 _ _, fun w nw => ?_⟩
    have s1 := same_upd (o := .lst [.ref l, .ref m]) nu
    have s2 := same_upd (o := .lst [.ref m, .ref l]) nv
    have s3 := same_upd (o := .lst [.ref u, .ref v]) nw
    have hU := s3 _ _ (s2 _ _ (upd_same (H := H) (a := u) (o := .lst [.ref l, .ref m])))
    have hV := s3 _ _ (upd_same (a := v) (o := .lst [.ref m, .ref l]) (H := upd H u (.lst [.ref l, .ref m])))
    have hW : upd (upd (upd H u (.lst [.ref l, .ref m])) v (.lst [.ref m, .ref l])) w (.lst [.ref u, .ref v]) w = some (.lst [.ref u, .ref v]) := upd_same
    have s := (s1.trans s2).trans s3
    generalize upd (upd (upd H u (.lst [.ref l, .ref m])) v (.lst [.ref m, .ref l])) w (.lst [.ref u, .ref v]) = H3 at s hU hV hW ⊢
    have hF3 := hF.same s
    have hL3 := s.seq hL
    have hM3 := s.seq hM
    rcases ht with rfl | rfl
    · refine ⟨_, rfl, w, _, _, _, rfl, rfl, sql hW, atI_nat (j := 0) rfl, ?_⟩
      rcases hw with ⟨rfl, rfl⟩ | ⟨rfl, rfl⟩ | ⟨rfl, rfl⟩
      · refine ⟨_, rfl, rfl, _, rfl, stepT rfl ?_⟩
        exact ⟨_, rfl, _, rfl, u, _, _, _, rfl, rfl, sql hU, atI_nat (j := 0) rfl, _, rfl, u, _, _, _, rfl, rfl, sql hU, atI_nat (j := 1) rfl, a, l, m, _, A, B, rfl, hF3, hL3, hM3, fun z => (q1 z).on s, fun h1 h2 => ⟨(q2 h1 h2).1.imp_right fun z => z.imp_right fun z => z.2, (q2 h1 h2).2.on s⟩⟩
      · refine ⟨_, rfl, rfl, _, rfl, stepF (by decide) ?_⟩
        refine ⟨_, rfl, rfl, _, rfl, stepT rfl ?_⟩
        exact ⟨_, rfl, _, rfl, u, _, _, _, rfl, rfl, sql hU, atI_nat (j := 0) rfl, _, rfl, u, _, _, _, rfl, rfl, sql hU, atI_nat (j := 1) rfl, a, l, m, _, A, B, rfl, hF3, hL3, hM3, fun z => (q1 z).on s, fun h1 h2 => ⟨(q2 h1 h2).1.imp_right fun z => z.elim id fun z => absurd z.1 (by decide), (q2 h1 h2).2.on s⟩⟩
      · refine ⟨_, rfl, rfl, _, rfl, stepF (by decide) ?_⟩
        refine ⟨_, rfl, rfl, _, rfl, stepF (by decide) ?_⟩
        exact ⟨_, rfl, u, _, _, _, rfl, rfl, sql hU, atI_nat (j := 0) rfl, _, rfl, u, _, _, _, rfl, rfl, sql hU, atI_nat (j := 1) rfl, l, m, A, B, rfl, hL3, hM3, fun z => (q1 z).on s, fun h1 h2 => ⟨(q2 h1 h2).1.imp_right fun z => z.elim id fun z => absurd z.1 (by decide), (q2 h1 h2).2.on s⟩⟩
    · refine ⟨_, rfl, w, _, _, _, rfl, rfl, sql hW, atI_nat (j := 1) rfl, ?_⟩
      rcases hw with ⟨rfl, rfl⟩ | ⟨rfl, rfl⟩ | ⟨rfl, rfl⟩
      · refine ⟨_, rfl, rfl, _, rfl, stepT rfl ?_⟩
        exact ⟨_, rfl, _, rfl, v, _, _, _, rfl, rfl, sql hV, atI_nat (j := 0) rfl, _, rfl, v, _, _, _, rfl, rfl, sql hV, atI_nat (j := 1) rfl, a, m, l, _, B, A, rfl, hF3, hM3, hL3, fun z => (q1 z.symm).on s, fun h1 h2 => ⟨(q2 h2 h1).1.elim (fun z => .inr (.inl z)) fun z => z.elim .inl fun z => .inr (.inr fun k => z.2 k.symm), (q2 h2 h1).2.on s⟩⟩
      · refine ⟨_, rfl, rfl, _, rfl, stepF (by decide) ?_⟩
        refine ⟨_, rfl, rfl, _, rfl, stepT rfl ?_⟩
        exact ⟨_, rfl, _, rfl, v, _, _, _, rfl, rfl, sql hV, atI_nat (j := 0) rfl, _, rfl, v, _, _, _, rfl, rfl, sql hV, atI_nat (j := 1) rfl, a, m, l, _, B, A, rfl, hF3, hM3, hL3, fun z => (q1 z.symm).on s, fun h1 h2 => ⟨(q2 h2 h1).1.elim .inr fun z => z.elim .inl fun z => absurd z.1 (by decide), (q2 h2 h1).2.on s⟩⟩
      · refine ⟨_, rfl, rfl, _, rfl, stepF (by decide) ?_⟩
        refine ⟨_, rfl, rfl, _, rfl, stepF (by decide) ?_⟩
        exact ⟨_, rfl, v, _, _, _, rfl, rfl, sql hV, atI_nat (j := 0) rfl, _, rfl, v, _, _, _, rfl, rfl, sql hV, atI_nat (j := 1) rfl, m, l, B, A, rfl, hM3, hL3, fun z => (q1 z.symm).on s, fun h1 h2 => ⟨(q2 h2 h1).1.elim .inr fun z => z.elim .inl fun z => absurd z.1 (by decide), (q2 h2 h1).2.on s⟩⟩
end
end Spw

namespace Spw
open PySem PySem.Spec PyProof.Rows L2 Spm
section
variable {P : Program} {w : World} {K : PySem.W.Frag} {mg : Str → Option Value} {base : Heap}
/-- row_through, of bad points -/
def sp_row_through (K : PySem.W.Frag) (C : Addr) (D : Exs) : Sp := fun vs H Q E => ∃ (a l : Addr) (p : Int) (pts : List (Int × Int)) (as : List Addr), vs = [.ref a, .ref l] ∧ FieldAt C H a p ∧ PtsAt K H l as pts ∧ pts.length ≤ 100 ∧
  (¬ Rests p (pts.map (·.1)) ∨ ¬ Rests p (pts.map (·.2)) → RE D.R H E) ∧
  (Rests p (pts.map (·.1)) → Rests p (pts.map (·.2)) → (pts.length = 0 ∨ 32 < pts.length ∨ (SetD.once (pts.map (·.1))).length < pts.length) ∧ RE D.W H E)
theorem ok_row_through (T : Env K mg) : FnOk P w K mg base (L2.CX P w) 2 T.f_row_through T.d_row_through ["field", "points"] (sp_row_through K T.C T.xs) := by
  refine T.F_row_through.okX sc_row_through (fun vs H Q E h => ?_) (fun cdv A outer s H vs Q E hr h => ?_)
  · obtain ⟨a, l, p, pts, as, rfl, _⟩ := h
    rfl
  · obtain ⟨a, l, p, pts, as, rfl, hF, hP, n2, q1, q2⟩ := h
    obtain ⟨dx, hF'⟩ := id hF
    refine ⟨_, (pss_cons (ps_setLc (i := 3) (own := [("point", 2)]) (g := gName 2) (tt := tYes) rfl sc_row_through.nd rfl rfl (sw_true rfl rfl rfl (by decide +kernel)) (pi_list (pv 1)) (blkOk_by (N := N_row_through) (sc := defScope s_row_through) (by decide +kernel)) (fun _ _ _ _ _ => pg_name (i := 2) sc_row_through.nd rfl (Or.inl rfl)) (fun _ _ _ _ _ => by exact pts_nil) (fun _ _ _ _ _ => by exact (pe_ix (ix_tupK (K := K) rfl) (pv 2) pe_int (fun _ _ => rfl))))
      (pss_cons (ps_expr (pe_meth (pv 0) T.cl_C T.h_m_ask (ok_m_ask T) (hr.mono (by decide)) T.b_m_ask .nil (passes_call (takes_of rfl rfl rfl rfl) (fun _ _ _ _ z => z)) (pa_cons (pv 3) (pa_cons pe_int pa_nil))))
      (pss_cons (ps_expr (pe_meth (pv 0) T.cl_C T.h_m_ask (ok_m_ask T) (hr.mono (by decide)) T.b_m_ask .nil (passes_call (takes_of rfl rfl rfl rfl) (fun _ _ _ _ z => z)) (pa_cons (pe_lc (own := [("point", 2)]) (g := gName 2) (tt := tYes) rfl sc_row_through.nd (pi_list (pv 1)) (blkOk_by (N := N_row_through) (sc := defScope s_row_through) (by decide +kernel)) (fun _ _ _ _ _ => pg_name (i := 2) sc_row_through.nd rfl (Or.inl rfl)) (fun _ _ _ _ _ => by exact pts_nil) (fun _ _ _ _ _ => by exact (pe_ix (ix_tupK (K := K) rfl) (pv 2) pe_int (fun _ _ => rfl)))) (pa_cons pe_int pa_nil))))
      (pss_cons (ps_if (PW.pt (pw_or (pt_not (pt_chain op_le op_le pe_int (pe_callB call_len_seq (by rfl) T.n_len PySem.boot_len (pa_cons (pv 1) pa_nil)) (pe_glob (v := .int 32) rfl T.c_MOST_POINTS.choose_spec ⟨_, rfl⟩))) (pw_or1 (pt_cmpR op_lt (SetD.pe_lenSetD (by rfl) T.n_len (by rfl) T.n_set (pv 3)) (pe_callB call_len_seq (by rfl) T.n_len PySem.boot_len (pa_cons (pv 1) pa_nil)) (nomark _))))) (pss_one (ps_raise rfl (takes_of rfl rfl rfl rfl) (pmk_own PySem.F.excBase_ValueError T.X_NoRow.q T.X_NoRow.g T.X_NoRow.k (raises_own T.X_NoRow.s T.X_NoRow.t) rfl))) pss_nil)
      pss_never)))), ?_⟩
    have lAs : (as.map V.ref).length = pts.length := by rw [List.length_map, hP.len]
    refine ⟨_, rfl, l, rfl, ⟨_, hP.lst⟩, fun D nD => ?_⟩
    refine lc_list (K := K) (a := l) (xs := as.map V.ref) (fun i H' => Same H H' ∧ H' D = some (.lst (il ((pts.map (·.1)).take i)))) ⟨same_upd nD, upd_same⟩ (fun i H' _ h => h.1.seq hP.lst) ?_ ?_
    · rintro i y H' hy ⟨s1, hD⟩
      obtain ⟨t, ht, rfl⟩ := ref_at hy
      obtain ⟨qq, hq, hT⟩ := hP.at_ i t ht
      have ilt : i < pts.length := (List.getElem?_eq_some_iff.mp hq).1
      refine ⟨rfl, lcYes ?_⟩
      refine ⟨_, rfl, t, _, _, _, rfl, rfl, Same.sqt' s1 hT, atI_nat (j := 0) rfl, ?_⟩
      refine ⟨_, hD, ?_, s1.over nD, ?_⟩
      · rw [il_len, List.length_take]
        exact small1000 (by omega)
      · rw [upd_same, List.take_add_one, List.getElem?_map, hq]
        unfold il
        rw [Option.map_some, Option.toList_some, List.map_append]
        rfl
    rintro H1 ⟨s1, hD⟩
    rw [lAs, List.take_of_length_le (by rw [List.length_map]; exact Nat.le_refl _)] at hD
    refine ⟨_, rfl, a, dx, _, rfl, s1 _ _ hF', ff_no _ (by decide +kernel), _, rfl, a, D, p, 0, pts.map Prod.fst, rfl, hF.same s1, sql hD, fun ok1 => ?_, fun z => q1 (.inl (show ¬ Rests p (pts.map (·.1)) from z)) _ s1⟩
    refine ⟨_, rfl, a, dx, _, rfl, s1 _ _ hF', ff_no _ (by decide +kernel), _, rfl, l, rfl, ⟨_, s1.seq hP.lst⟩, fun D2 nD2 => ?_⟩
    refine lc_list (K := K) (a := l) (xs := as.map V.ref) (fun i H' => Same H1 H' ∧ H' D2 = some (.lst (il ((pts.map (·.2)).take i)))) ⟨same_upd nD2, upd_same⟩ (fun i H' _ h => (s1.trans h.1).seq hP.lst) ?_ ?_
    · rintro i y H' hy ⟨s2, hD2⟩
      obtain ⟨t, ht, rfl⟩ := ref_at hy
      obtain ⟨qq, hq, hT⟩ := hP.at_ i t ht
      have ilt : i < pts.length := (List.getElem?_eq_some_iff.mp hq).1
      refine ⟨rfl, lcYes ?_⟩
      refine ⟨_, rfl, t, _, _, _, rfl, rfl, Same.sqt' (s1.trans s2) hT, atI_nat (j := 1) rfl, ?_⟩
      refine ⟨_, hD2, ?_, s2.over nD2, ?_⟩
      · rw [il_len, List.length_take]
        exact small1000 (by omega)
      · rw [upd_same, List.take_add_one, List.getElem?_map, hq]
        unfold il
        rw [Option.map_some, Option.toList_some, List.map_append]
        rfl
    rintro H2 ⟨s2, hD2⟩
    rw [lAs, List.take_of_length_le (by rw [List.length_map]; exact Nat.le_refl _)] at hD2
    have s12 := s1.trans s2
    have hD12 := s2 _ _ hD
    refine ⟨a, D2, p, 0, pts.map Prod.snd, rfl, hF.same s12, sql hD2, fun ok2 => ?_, fun z => q1 (.inr (show ¬ Rests p (pts.map (·.2)) from z)) _ s12⟩
    obtain ⟨hn, e⟩ := q2 ok1 ok2
    refine ⟨_, rfl, l, _, rfl, .inl (s12.seq hP.lst), _, _, rfl, rfl, _, rfl, ?_⟩
    rw [lAs]
    by_cases c1 : (1 : Int) ≤ (pts.length : Int)
    · refine iteD c1 ⟨_, _, rfl, rfl, _, rfl, ?_⟩
      by_cases c2 : (pts.length : Int) ≤ 32
      · refine iteNS c2 ?_
        refine ⟨_, rfl, D, pts.map (·.1), rfl, sql hD12, by rw [List.length_map]; omega, _, rfl, l, _, rfl, .inl (s12.seq hP.lst), _, _, rfl, rfl, _, rfl, ?_⟩
        rw [lAs]
        exact iteD (by omega) (e _ s12)
      · exact iteNF c2 (e _ s12)
    · exact iteDF c1 ⟨_, rfl, iteT (e _ s12)⟩
end
end Spw

namespace Spw
open PySem PySem.Spec PyProof.Rows L2 Spm
section
variable {P : Program} {w : World} {K : PySem.W.Frag} {mg : Str → Option Value} {base : Heap}
/-- worth_at, of no rest or a bad row -/
def sp_worth_at (K : PySem.W.Frag) (C : Addr) (D : Exs) : Sp := fun vs H Q E => ∃ (a l : Addr) (p : Int) (row : List Int) (x : Int), vs = [.ref a, .ref l, .int x] ∧ FieldAt C H a p ∧ SqL K H l (il row) ∧
  (¬ (0 ≤ x ∧ x < p) ∨ ¬ Rests p row → RE D.R H E) ∧ (0 ≤ x → x < p → Rests p row → row = [] ∧ RE D.W H E)
theorem ok_worth_at (T : Env K mg) : FnOk P w K mg base (L2.CX P w) 3 T.f_worth_at T.d_worth_at ["field", "row", "one"] (sp_worth_at K T.C T.xs) := by
  refine T.F_worth_at.okX sc_worth_at (fun vs H Q E h => ?_) (fun cdv A outer s H vs Q E hr h => ?_)
  · obtain ⟨a, l, p, row, x, rfl, _⟩ := h
    rfl
  · obtain ⟨a, l, p, row, x, rfl, hF, hL, e1, e2⟩ := h
    obtain ⟨dx, hF'⟩ := id hF
    refine ⟨_, (pss_cons (ps_expr (pe_meth (pv 0) T.cl_C T.h_m_ask (ok_m_ask T) (hr.mono (by decide)) T.b_m_ask .nil (passes_call (takes_of rfl rfl rfl rfl) (fun _ _ _ _ z => z)) (pa_cons (pe_lst (pa_cons (pv 2) pa_nil)) (pa_cons pe_int pa_nil))))
      (pss_cons (ps_expr (pe_call (ok_ask_row T) (hr.mono (by decide)) (by rfl) T.g_ask_row T.F_ask_row.kp T.b_ask_row .nil (passes_call (takes_of rfl rfl rfl rfl) (fun _ _ _ _ z => z)) (pa_cons (pv 0) (pa_cons (pv 1) pa_nil))))
      pss_never)), ?_⟩
    refine ⟨_, rfl, a, dx, _, rfl, hF', ff_no _ (by decide +kernel), _, rfl, le1 _, fun o no => ?_⟩
    have s1 : Same H (upd H o (.lst [.int x])) := same_upd no
    refine ⟨a, o, p, 0, [x], rfl, hF.same s1, sql upd_same, fun k => ?_, fun k => e1 (.inl fun z => k fun y hy => by rw [List.mem_singleton.mp hy]; exact z) _ s1⟩
    obtain ⟨h0, h1⟩ := k x (List.mem_cons_self ..)
    refine ⟨_, rfl, _, rfl, a, l, p, row, rfl, hF.same s1, s1.seq hL, fun hr ne => absurd (e2 h0 h1 hr).1 ne, fun hb => e1 (.inr hb) _ s1, fun hr _ => (e2 h0 h1 hr).2 _ s1⟩
end
end Spw

namespace Spw
open PySem PySem.Spec PyProof.Rows L2 Spm
section
variable {P : Program} {w : World} {K : PySem.W.Frag} {mg : Str → Option Value} {base : Heap}
/-- _law_no_row: NoRow -/
def sp_l_no_row (K : PySem.W.Frag) (C : Addr) (D : Exs) : Sp := fun vs H Q E => ∃ (a : Addr) (cell : Int), vs = [.ref a, .int cell] ∧ FieldAt C H a ((13 : Nat) : Int) ∧ RE D.W H E
theorem ok_l_no_row (T : Env K mg) : FnOk P w K mg base (L2.CX P w) 6 T.f_l_no_row T.d_l_no_row ["field", "cell"] (sp_l_no_row K T.C T.xs) := by
  refine T.F_l_no_row.okX sc_l_no_row (fun vs H Q E h => ?_) (fun cdv A outer s H vs Q E hr h => ?_)
  · obtain ⟨a, cell, rfl, _⟩ := h
    rfl
  · obtain ⟨a, cell, rfl, hF, e⟩ := h
    refine ⟨_, (pss_cons (ps_set (i := 2) sc_l_no_row.nd rfl (Or.inl rfl) (pe_op op_mod (pv 1) pe_int))
      (pss_one (ps_if (pt_cmpR op_eq (pv 2) pe_int (nomark _)) (pss_one (ps_expr (pe_call (ok_turned T) (hr.mono (by decide)) (by rfl) T.g_turned T.F_turned.kp T.b_turned .nil (passes_call (takes_of rfl rfl rfl rfl) (fun _ _ _ _ z => z)) (pa_cons (pv 0) (pa_cons pe_int (pa_cons (pe_lst pa_nil) pa_nil)))))) (pss_one (ps_if (pt_cmpR op_eq (pv 2) pe_int (nomark _)) (pss_one (ps_expr (pe_call (ok_turned_back T) (hr.mono (by decide)) (by rfl) T.g_turned_back T.F_turned_back.kp T.b_turned_back .nil (passes_call (takes_of rfl rfl rfl rfl) (fun _ _ _ _ z => z)) (pa_cons (pv 0) (pa_cons pe_int (pa_cons (pe_lst pa_nil) pa_nil)))))) (pss_one (ps_if (pt_cmpR op_eq (pv 2) pe_int (nomark _)) (pss_one (ps_expr (pe_call (ok_worth_at T) (hr.mono (by decide)) (by rfl) T.g_worth_at T.F_worth_at.kp T.b_worth_at .nil (passes_call (takes_of rfl rfl rfl rfl) (fun _ _ _ _ z => z)) (pa_cons (pv 0) (pa_cons (pe_lst pa_nil) (pa_cons pe_int pa_nil)))))) (pss_one (ps_if (pt_cmpR op_eq (pv 2) pe_int (nomark _)) (pss_one (ps_expr (pe_call (ok_l_two T) (hr.mono (by decide)) (by rfl) T.g_l_two T.F_l_two.kp T.b_l_two .nil (passes_call (takes_of rfl rfl rfl rfl) (fun _ _ _ _ z => z)) (pa_cons pe_int (pa_cons (pv 0) (pa_cons (pe_ix ix_list (pe_lst (pa_cons (pe_lst (pa_cons pe_int (pa_cons pe_int (pa_cons pe_int pa_nil)))) (pa_cons (pe_lst pa_nil) (pa_cons (pe_lst pa_nil) pa_nil)))) (pe_op op_mod (pe_op op_fdiv (pv 1) pe_int) pe_int) (fun _ _ => rfl)) (pa_cons (pe_ix ix_list (pe_lst (pa_cons (pe_lst (pa_cons pe_int (pa_cons pe_int pa_nil))) (pa_cons (pe_lst (pa_cons pe_int pa_nil)) (pa_cons (pe_lst pa_nil) pa_nil)))) (pe_op op_mod (pe_op op_fdiv (pv 1) pe_int) pe_int) (fun _ _ => rfl)) (pa_cons (pe_op op_mod (pe_op op_fdiv (pv 1) pe_int) pe_int) pa_nil)))))))) (pss_one (ps_if (pt_cmpR op_eq (pv 2) pe_int (nomark _)) (pss_one (ps_expr (pe_call (ok_l_two T) (hr.mono (by decide)) (by rfl) T.g_l_two T.F_l_two.kp T.b_l_two .nil (passes_call (takes_of rfl rfl rfl rfl) (fun _ _ _ _ z => z)) (pa_cons pe_int (pa_cons (pv 0) (pa_cons (pe_ix ix_list (pe_lst (pa_cons (pe_lst pa_nil) (pa_cons (pe_lst (pa_cons pe_int pa_nil)) pa_nil))) (pe_op op_mod (pe_op op_fdiv (pv 1) pe_int) pe_int) (fun _ _ => rfl)) (pa_cons (pe_lst pa_nil) (pa_cons (pe_op op_mod (pe_op op_fdiv (pv 1) pe_int) pe_int) pa_nil)))))))) (pss_one (ps_if (pt_cmpR op_eq (pv 2) pe_int (nomark _)) (pss_one (ps_expr (pe_call (ok_row_through T) (hr.mono (by decide)) (by rfl) T.g_row_through T.F_row_through.kp T.b_row_through .nil (passes_call (takes_of rfl rfl rfl rfl) (fun _ _ _ _ z => z)) (pa_cons (pv 0) (pa_cons (pe_lst (pa_cons (pe_tup (pa_cons pe_int (pa_cons pe_int pa_nil))) (pa_cons (pe_tup (pa_cons pe_int (pa_cons pe_int pa_nil))) (pa_cons (pe_tup (pa_cons pe_int (pa_cons (pe_op op_add pe_int (pe_op op_mod (pe_op op_fdiv (pv 1) pe_int) pe_int)) pa_nil))) pa_nil)))) pa_nil))))) (pss_one (ps_if (pt_cmpR op_eq (pv 2) pe_int (nomark _)) (pss_one (ps_expr (pe_call (ok_row_through T) (hr.mono (by decide)) (by rfl) T.g_row_through T.F_row_through.kp T.b_row_through .nil (passes_call (takes_of rfl rfl rfl rfl) (fun _ _ _ _ z => z)) (pa_cons (pe_make T.M_C (ok_m_init T) (hr.mono (by decide)) (by rfl) T.g_C T.b_m_init .nil (passes_call (takes_of rfl rfl rfl rfl) (fun _ _ _ _ z => z)) (pa_cons pe_int pa_nil)) (pa_cons (pe_lc (own := [("k", 3)]) (g := gName 3) (tt := tYes) rfl sc_l_no_row.nd (pi_range1 (by rfl) T.n_range (pa_cons (pe_ix ix_list (pe_lst (pa_cons pe_int (pa_cons (pe_op op_add pe_int (pe_op op_mod (pe_op op_fdiv (pv 1) pe_int) pe_int)) pa_nil))) (pe_op op_mod (pe_op op_fdiv (pv 1) pe_int) pe_int) (fun _ _ => rfl)) pa_nil)) (blkOk_by (N := N_l_no_row) (sc := defScope s_l_no_row) (by decide +kernel)) (fun _ _ _ _ _ => pg_name (i := 3) sc_l_no_row.nd rfl (Or.inl rfl)) (fun _ _ _ _ _ => by exact pts_nil) (fun _ _ _ _ _ => by exact (pe_tup (pa_cons (pv 3) (pa_cons pe_int pa_nil))))) pa_nil))))) (pss_one (ps_expr (pe_call (ok_l_two T) (hr.mono (by decide)) (by rfl) T.g_l_two T.F_l_two.kp T.b_l_two .nil (passes_call (takes_of rfl rfl rfl rfl) (fun _ _ _ _ z => z)) (pa_cons pe_int (pa_cons (pv 0) (pa_cons (pe_ix ix_list (pe_lst (pa_cons (pe_lst pa_nil) (pa_cons (pe_lst (pa_cons pe_int pa_nil)) pa_nil))) (pe_op op_mod (pe_op op_fdiv (pv 1) pe_int) pe_int) (fun _ _ => rfl)) (pa_cons (pe_lst pa_nil) (pa_cons (pe_op op_mod (pe_op op_fdiv (pv 1) pe_int) pe_int) pa_nil))))))))))))))))))))))), ?_⟩
    refine ⟨_, rfl, _, _, rfl, rfl, (by decide : (0 : Int) < 8), ?_⟩
    have hw : cell % 8 = 0 ∨ cell % 8 = 1 ∨ cell % 8 = 2 ∨ cell % 8 = 3 ∨ cell % 8 = 4 ∨ cell % 8 = 5 ∨ cell % 8 = 6 ∨ cell % 8 = 7 := by omega
    have h82 : cell / 8 % 2 = 0 ∨ cell / 8 % 2 = 1 := by omega
    have h83 : cell / 8 % 3 = 0 ∨ cell / 8 % 3 = 1 ∨ cell / 8 % 3 = 2 := by omega
    have h83b : 0 ≤ cell / 8 % 3 ∧ cell / 8 % 3 < 3 := by omega
    have h162 : cell / 16 % 2 = 0 ∨ cell / 16 % 2 = 1 := by omega
    have h1628 : 0 ≤ cell / 16 % 28 ∧ cell / 16 % 28 < 28 := by omega
    have h242 : cell / 24 % 2 = 0 ∨ cell / 24 % 2 = 1 := by omega
    rcases hw with c | c | c | c | c | c | c | c
    · refine ⟨_, rfl, rfl, _, rfl, stepT c ?_⟩
      refine ⟨_, rfl, ?_⟩
      refine ⟨Nat.zero_le _, fun x1 y1 => ?_⟩
      have s1 := same_upd (o := .lst []) y1
      exact ⟨a, x1, 13, [], 3, rfl, hF.same s1, good13, sql upd_same, fun z => absurd z (fun h => h.elim (fun k => k (by decide)) (fun k => k rests_nil)), fun _ _ _ => e.on s1, fun _ _ _ ne => absurd rfl ne⟩
    · refine ⟨_, rfl, rfl, _, rfl, stepF (by omega) ?_⟩
      refine ⟨_, rfl, rfl, _, rfl, stepT c ?_⟩
      refine ⟨_, rfl, ?_⟩
      refine ⟨Nat.zero_le _, fun x1 y1 => ?_⟩
      have s1 := same_upd (o := .lst []) y1
      exact ⟨a, x1, 13, [], 1, rfl, hF.same s1, good13, sql upd_same, fun z => absurd z (fun h => h.elim (fun k => k (by decide)) (fun k => k rests_nil)), fun _ _ _ => e.on s1, fun _ _ _ ne => absurd rfl ne⟩
    · refine ⟨_, rfl, rfl, _, rfl, stepF (by omega) ?_⟩
      refine ⟨_, rfl, rfl, _, rfl, stepF (by omega) ?_⟩
      refine ⟨_, rfl, rfl, _, rfl, stepT c ?_⟩
      refine ⟨_, rfl, ?_⟩
      refine ⟨Nat.zero_le _, fun x1 y1 => ?_⟩
      have s1 := same_upd (o := .lst []) y1
      exact ⟨a, x1, 13, [], 5, rfl, hF.same s1, sql upd_same, fun z => absurd z (fun h => h.elim (fun k => k (by decide)) (fun k => k rests_nil)), fun _ _ _ => ⟨rfl, e.on s1⟩⟩
    · refine ⟨_, rfl, rfl, _, rfl, stepF (by omega) ?_⟩
      refine ⟨_, rfl, rfl, _, rfl, stepF (by omega) ?_⟩
      refine ⟨_, rfl, rfl, _, rfl, stepF (by omega) ?_⟩
      refine ⟨_, rfl, rfl, _, rfl, stepT c ?_⟩
      refine ⟨_, rfl, ?_⟩
      rcases h83 with d | d | d
      · refine ⟨le3 _ _ _, fun x1 y1 => ?_⟩
        have s1 := same_upd (o := .lst [.int (1), .int (2), .int (3)]) y1
        refine ⟨Nat.zero_le _, fun x2 y2 => ?_⟩
        have s2 := same_upd (o := .lst []) y2
        refine ⟨Nat.zero_le _, fun x3 y3 => ?_⟩
        have s3 := same_upd (o := .lst []) y3
        refine ⟨le3 _ _ _, fun x4 y4 => ?_⟩
        have s4 := same_upd (o := .lst [.ref x1, .ref x2, .ref x3]) y4
        refine ⟨_, rfl, _, _, rfl, rfl, ⟨by decide, by decide⟩, _, _, rfl, rfl, (by decide : (0 : Int) < 3), ?_⟩
        refine ⟨x4, _, _, _, rfl, congrArg V.int d, sql upd_same, atI_nat (j := 0) rfl, ?_⟩
        refine ⟨le2 _ _, fun x5 y5 => ?_⟩
        have s5 := same_upd (o := .lst [.int (1), .int (2)]) y5
        refine ⟨le1 _, fun x6 y6 => ?_⟩
        have s6 := same_upd (o := .lst [.int (1)]) y6
        refine ⟨Nat.zero_le _, fun x7 y7 => ?_⟩
        have s7 := same_upd (o := .lst []) y7
        refine ⟨le3 _ _ _, fun x8 y8 => ?_⟩
        have s8 := same_upd (o := .lst [.ref x5, .ref x6, .ref x7]) y8
        refine ⟨_, rfl, _, _, rfl, rfl, ⟨by decide, by decide⟩, _, _, rfl, rfl, (by decide : (0 : Int) < 3), ?_⟩
        refine ⟨x8, _, _, _, rfl, congrArg V.int d, sql upd_same, atI_nat (j := 0) rfl, ?_⟩
        refine ⟨_, rfl, _, _, rfl, rfl, ⟨by decide, by decide⟩, _, _, rfl, rfl, (by decide : (0 : Int) < 2), ?_⟩
        exact ⟨a, x1, x5, 13, 0, _, 13, [1, 2, 3], [1, 2], rfl, hF.same (Same.trans s1 (Same.trans s2 (Same.trans s3 (Same.trans s4 (Same.trans s5 (Same.trans s6 (Same.trans s7 s8))))))), sql ((Same.trans s2 (Same.trans s3 (Same.trans s4 (Same.trans s5 (Same.trans s6 (Same.trans s7 s8)))))) _ _ upd_same), sql ((Same.trans s6 (Same.trans s7 s8)) _ _ upd_same), h242, .inl ⟨rfl, rfl⟩, (fun z => absurd z (by intro h; rcases h with h | h <;> exact h (by intro x hx; simp at hx <;> omega))), fun _ _ => ⟨.inr (.inr ⟨rfl, by decide⟩), e.on (Same.trans s1 (Same.trans s2 (Same.trans s3 (Same.trans s4 (Same.trans s5 (Same.trans s6 (Same.trans s7 s8)))))))⟩⟩
      · refine ⟨le3 _ _ _, fun x1 y1 => ?_⟩
        have s1 := same_upd (o := .lst [.int (1), .int (2), .int (3)]) y1
        refine ⟨Nat.zero_le _, fun x2 y2 => ?_⟩
        have s2 := same_upd (o := .lst []) y2
        refine ⟨Nat.zero_le _, fun x3 y3 => ?_⟩
        have s3 := same_upd (o := .lst []) y3
        refine ⟨le3 _ _ _, fun x4 y4 => ?_⟩
        have s4 := same_upd (o := .lst [.ref x1, .ref x2, .ref x3]) y4
        refine ⟨_, rfl, _, _, rfl, rfl, ⟨by decide, by decide⟩, _, _, rfl, rfl, (by decide : (0 : Int) < 3), ?_⟩
        refine ⟨x4, _, _, _, rfl, congrArg V.int d, sql upd_same, atI_nat (j := 1) rfl, ?_⟩
        refine ⟨le2 _ _, fun x5 y5 => ?_⟩
        have s5 := same_upd (o := .lst [.int (1), .int (2)]) y5
        refine ⟨le1 _, fun x6 y6 => ?_⟩
        have s6 := same_upd (o := .lst [.int (1)]) y6
        refine ⟨Nat.zero_le _, fun x7 y7 => ?_⟩
        have s7 := same_upd (o := .lst []) y7
        refine ⟨le3 _ _ _, fun x8 y8 => ?_⟩
        have s8 := same_upd (o := .lst [.ref x5, .ref x6, .ref x7]) y8
        refine ⟨_, rfl, _, _, rfl, rfl, ⟨by decide, by decide⟩, _, _, rfl, rfl, (by decide : (0 : Int) < 3), ?_⟩
        refine ⟨x8, _, _, _, rfl, congrArg V.int d, sql upd_same, atI_nat (j := 1) rfl, ?_⟩
        refine ⟨_, rfl, _, _, rfl, rfl, ⟨by decide, by decide⟩, _, _, rfl, rfl, (by decide : (0 : Int) < 2), ?_⟩
        exact ⟨a, x2, x6, 13, 0, _, 13, [], [1], rfl, hF.same (Same.trans s1 (Same.trans s2 (Same.trans s3 (Same.trans s4 (Same.trans s5 (Same.trans s6 (Same.trans s7 s8))))))), sql ((Same.trans s3 (Same.trans s4 (Same.trans s5 (Same.trans s6 (Same.trans s7 s8))))) _ _ upd_same), sql ((Same.trans s7 s8) _ _ upd_same), h242, .inl ⟨rfl, rfl⟩, (fun z => absurd z (by intro h; rcases h with h | h <;> exact h (by intro x hx; simp at hx <;> omega))), fun _ _ => ⟨.inl rfl, e.on (Same.trans s1 (Same.trans s2 (Same.trans s3 (Same.trans s4 (Same.trans s5 (Same.trans s6 (Same.trans s7 s8)))))))⟩⟩
      · refine ⟨le3 _ _ _, fun x1 y1 => ?_⟩
        have s1 := same_upd (o := .lst [.int (1), .int (2), .int (3)]) y1
        refine ⟨Nat.zero_le _, fun x2 y2 => ?_⟩
        have s2 := same_upd (o := .lst []) y2
        refine ⟨Nat.zero_le _, fun x3 y3 => ?_⟩
        have s3 := same_upd (o := .lst []) y3
        refine ⟨le3 _ _ _, fun x4 y4 => ?_⟩
        have s4 := same_upd (o := .lst [.ref x1, .ref x2, .ref x3]) y4
        refine ⟨_, rfl, _, _, rfl, rfl, ⟨by decide, by decide⟩, _, _, rfl, rfl, (by decide : (0 : Int) < 3), ?_⟩
        refine ⟨x4, _, _, _, rfl, congrArg V.int d, sql upd_same, atI_nat (j := 2) rfl, ?_⟩
        refine ⟨le2 _ _, fun x5 y5 => ?_⟩
        have s5 := same_upd (o := .lst [.int (1), .int (2)]) y5
        refine ⟨le1 _, fun x6 y6 => ?_⟩
        have s6 := same_upd (o := .lst [.int (1)]) y6
        refine ⟨Nat.zero_le _, fun x7 y7 => ?_⟩
        have s7 := same_upd (o := .lst []) y7
        refine ⟨le3 _ _ _, fun x8 y8 => ?_⟩
        have s8 := same_upd (o := .lst [.ref x5, .ref x6, .ref x7]) y8
        refine ⟨_, rfl, _, _, rfl, rfl, ⟨by decide, by decide⟩, _, _, rfl, rfl, (by decide : (0 : Int) < 3), ?_⟩
        refine ⟨x8, _, _, _, rfl, congrArg V.int d, sql upd_same, atI_nat (j := 2) rfl, ?_⟩
        refine ⟨_, rfl, _, _, rfl, rfl, ⟨by decide, by decide⟩, _, _, rfl, rfl, (by decide : (0 : Int) < 2), ?_⟩
        exact ⟨a, x3, x7, 13, 0, _, 13, [], [], rfl, hF.same (Same.trans s1 (Same.trans s2 (Same.trans s3 (Same.trans s4 (Same.trans s5 (Same.trans s6 (Same.trans s7 s8))))))), sql ((Same.trans s4 (Same.trans s5 (Same.trans s6 (Same.trans s7 s8)))) _ _ upd_same), sql (s8 _ _ upd_same), h242, .inl ⟨rfl, rfl⟩, (fun z => absurd z (by intro h; rcases h with h | h <;> exact h (by intro x hx; simp at hx <;> omega))), fun _ _ => ⟨.inl rfl, e.on (Same.trans s1 (Same.trans s2 (Same.trans s3 (Same.trans s4 (Same.trans s5 (Same.trans s6 (Same.trans s7 s8)))))))⟩⟩
    · refine ⟨_, rfl, rfl, _, rfl, stepF (by omega) ?_⟩
      refine ⟨_, rfl, rfl, _, rfl, stepF (by omega) ?_⟩
      refine ⟨_, rfl, rfl, _, rfl, stepF (by omega) ?_⟩
      refine ⟨_, rfl, rfl, _, rfl, stepF (by omega) ?_⟩
      refine ⟨_, rfl, rfl, _, rfl, stepT c ?_⟩
      refine ⟨_, rfl, ?_⟩
      rcases h82 with d | d
      · refine ⟨Nat.zero_le _, fun x1 y1 => ?_⟩
        have s1 := same_upd (o := .lst []) y1
        refine ⟨le1 _, fun x2 y2 => ?_⟩
        have s2 := same_upd (o := .lst [.int (1)]) y2
        refine ⟨le2 _ _, fun x3 y3 => ?_⟩
        have s3 := same_upd (o := .lst [.ref x1, .ref x2]) y3
        refine ⟨_, rfl, _, _, rfl, rfl, ⟨by decide, by decide⟩, _, _, rfl, rfl, (by decide : (0 : Int) < 2), ?_⟩
        refine ⟨x3, _, _, _, rfl, congrArg V.int d, sql upd_same, atI_nat (j := 0) rfl, ?_⟩
        refine ⟨Nat.zero_le _, fun x4 y4 => ?_⟩
        have s4 := same_upd (o := .lst []) y4
        refine ⟨_, rfl, _, _, rfl, rfl, ⟨by decide, by decide⟩, _, _, rfl, rfl, (by decide : (0 : Int) < 2), ?_⟩
        exact ⟨a, x1, x4, 13, 1, _, 13, [], [], rfl, hF.same (Same.trans s1 (Same.trans s2 (Same.trans s3 s4))), sql ((Same.trans s2 (Same.trans s3 s4)) _ _ upd_same), sql upd_same, h162, .inr (.inl ⟨rfl, rfl⟩), (fun z => absurd z (by intro h; rcases h with h | h <;> exact h (by intro x hx; simp at hx <;> omega))), fun _ _ => ⟨.inl rfl, e.on (Same.trans s1 (Same.trans s2 (Same.trans s3 s4)))⟩⟩
      · refine ⟨Nat.zero_le _, fun x1 y1 => ?_⟩
        have s1 := same_upd (o := .lst []) y1
        refine ⟨le1 _, fun x2 y2 => ?_⟩
        have s2 := same_upd (o := .lst [.int (1)]) y2
        refine ⟨le2 _ _, fun x3 y3 => ?_⟩
        have s3 := same_upd (o := .lst [.ref x1, .ref x2]) y3
        refine ⟨_, rfl, _, _, rfl, rfl, ⟨by decide, by decide⟩, _, _, rfl, rfl, (by decide : (0 : Int) < 2), ?_⟩
        refine ⟨x3, _, _, _, rfl, congrArg V.int d, sql upd_same, atI_nat (j := 1) rfl, ?_⟩
        refine ⟨Nat.zero_le _, fun x4 y4 => ?_⟩
        have s4 := same_upd (o := .lst []) y4
        refine ⟨_, rfl, _, _, rfl, rfl, ⟨by decide, by decide⟩, _, _, rfl, rfl, (by decide : (0 : Int) < 2), ?_⟩
        exact ⟨a, x2, x4, 13, 1, _, 13, [1], [], rfl, hF.same (Same.trans s1 (Same.trans s2 (Same.trans s3 s4))), sql ((Same.trans s3 s4) _ _ upd_same), sql upd_same, h162, .inr (.inl ⟨rfl, rfl⟩), (fun z => absurd z (by intro h; rcases h with h | h <;> exact h (by intro x hx; simp at hx <;> omega))), fun _ _ => ⟨.inr (.inl rfl), e.on (Same.trans s1 (Same.trans s2 (Same.trans s3 s4)))⟩⟩
    · refine ⟨_, rfl, rfl, _, rfl, stepF (by omega) ?_⟩
      refine ⟨_, rfl, rfl, _, rfl, stepF (by omega) ?_⟩
      refine ⟨_, rfl, rfl, _, rfl, stepF (by omega) ?_⟩
      refine ⟨_, rfl, rfl, _, rfl, stepF (by omega) ?_⟩
      refine ⟨_, rfl, rfl, _, rfl, stepF (by omega) ?_⟩
      refine ⟨_, rfl, rfl, _, rfl, stepT c ?_⟩
      refine ⟨_, rfl, ?_⟩
      refine ⟨le2 _ _, fun x1 y1 => ?_⟩
      have s1 := same_upd (o := .tup [.int 1, .int 2]) y1
      refine ⟨le2 _ _, fun x2 y2 => ?_⟩
      have s2 := same_upd (o := .tup [.int 4, .int 2]) y2
      refine ⟨_, rfl, _, _, rfl, rfl, ⟨by decide, by decide⟩, _, _, rfl, rfl, (by decide : (0 : Int) < 3), _, _, rfl, rfl, ?_⟩
      refine ⟨le2 _ _, fun x3 y3 => ?_⟩
      have s3 := same_upd (o := .tup [.int 1, .int (2 + cell / 8 % 3)]) y3
      refine ⟨le3 _ _ _, fun x4 y4 => ?_⟩
      have s4 := same_upd (o := .lst [.ref x1, .ref x2, .ref x3]) y4
      exact ⟨a, x4, 13, [(1, 2), (4, 2), (1, 2 + cell / 8 % 3)], [x1, x2, x3], rfl, hF.same (Same.trans s1 (Same.trans s2 (Same.trans s3 s4))), pts3 upd_same ((Same.trans s2 (Same.trans s3 s4)) _ _ upd_same) ((Same.trans s3 s4) _ _ upd_same) (s4 _ _ upd_same), (by show 3 ≤ 100; decide), (fun z => absurd z (by intro h; rcases h with h | h <;> exact h (by intro x hx; simp at hx <;> omega))), fun _ _ => ⟨.inr (.inr (by show (SetD.once [1, 4, 1]).length < 3; decide)), e.on (Same.trans s1 (Same.trans s2 (Same.trans s3 s4)))⟩⟩
    · refine ⟨_, rfl, rfl, _, rfl, stepF (by omega) ?_⟩
      refine ⟨_, rfl, rfl, _, rfl, stepF (by omega) ?_⟩
      refine ⟨_, rfl, rfl, _, rfl, stepF (by omega) ?_⟩
      refine ⟨_, rfl, rfl, _, rfl, stepF (by omega) ?_⟩
      refine ⟨_, rfl, rfl, _, rfl, stepF (by omega) ?_⟩
      refine ⟨_, rfl, rfl, _, rfl, stepF (by omega) ?_⟩
      refine ⟨_, rfl, rfl, _, rfl, stepT c ?_⟩
      refine fun x dx nx ndx nex => ⟨x, dx, 997, rfl, upd_same, fun hp H2 hF2 kk => ⟨rfl, ?_⟩, fun z => absurd prime997 z⟩
      have s0 := Same.made nx ndx kk
      refine ⟨_, rfl, _, _, rfl, rfl, ⟨by decide, by decide⟩, _, _, rfl, rfl, (by decide : (0 : Int) < 28), _, _, rfl, rfl, ?_⟩
      refine ⟨le2 _ _, fun x1 y1 => ?_⟩
      have s1 := same_upd (o := .lst [.int 0, .int (33 + cell / 16 % 28)]) y1
      refine ⟨_, rfl, _, _, rfl, rfl, ⟨by decide, by decide⟩, _, _, rfl, rfl, (by decide : (0 : Int) < 2), ?_⟩
      have key : ∃ N : Nat, (N = 0 ∨ 32 < N) ∧ N ≤ 60 ∧ atI [V.int 0, V.int (33 + cell / 16 % 28)] (cell / 8 % 2) = some (.int (N : Int)) := by
        rcases h82 with d | d
        · exact ⟨0, .inl rfl, by decide, by rw [d]; rfl⟩
        · exact ⟨(33 + cell / 16 % 28).toNat, .inr (by omega), by omega, by rw [d]; show some (V.int (33 + cell / 16 % 28)) = _; rw [Int.toNat_of_nonneg (by omega)]⟩
      obtain ⟨N, hN, hN2, hat⟩ := key
      refine ⟨x1, _, _, _, rfl, rfl, sql upd_same, hat, ?_⟩
      refine ⟨_, rfl, by omega, by omega, ?_⟩
      rw [Int.toNat_natCast]
      intro D2 nD2
      have s2 := same_upd (o := .lst []) nD2
      refine lc_range (lo := 0) (n := N) (fun i H' => Same (upd H2 x1 (.lst [.int 0, .int (33 + cell / 16 % 28)])) H' ∧ ∃ as : List Addr, PtsT H' D2 as ((List.range i).map fun (k : Nat) => ((k : Int), (1 : Int)))) ⟨s2, [], PtsT.nil upd_same⟩ ?_ ?_
      · rintro i H' hi ⟨s3, as, hP⟩
        refine ⟨rfl, lcYes ?_⟩
        refine ⟨_, rfl, le2 _ _, fun t nt => ?_⟩
        have s4 := same_upd (o := .tup [.int (0 + (i : Int)), .int 1]) nt
        have hP4 := hP.same s4
        have hl := hP.len
        rw [List.length_map, List.length_range] at hl
        refine ⟨_, hP4.lst, ?_, (s3.trans s4).over nD2, as ++ [t], ?_⟩
        · rw [List.length_map]
          exact small1000 (by omega)
        · rw [List.range_succ, List.map_append]
          have := hP4.push (t := t) (x := (i : Int)) (y := 1) (by rw [upd_same, Int.zero_add])
          exact this
      · rintro H' ⟨s3, as, hP⟩
        have st := (s0.trans s1).trans s3
        refine ⟨x, D2, 997, _, as, rfl, FieldAt.same (s1.trans s3) hF2, hP.at, by rw [List.length_map, List.length_range]; omega, fun z => absurd z ?_, fun _ _ => ⟨?_, e.on st⟩⟩
        · intro h
          rcases h with h | h
          · exact h (by intro y hy; simp at hy <;> omega)
          · exact h (by intro y hy; simp at hy <;> omega)
        · rw [List.length_map, List.length_range]
          exact hN.imp_right .inl
    · refine ⟨_, rfl, rfl, _, rfl, stepF (by omega) ?_⟩
      refine ⟨_, rfl, rfl, _, rfl, stepF (by omega) ?_⟩
      refine ⟨_, rfl, rfl, _, rfl, stepF (by omega) ?_⟩
      refine ⟨_, rfl, rfl, _, rfl, stepF (by omega) ?_⟩
      refine ⟨_, rfl, rfl, _, rfl, stepF (by omega) ?_⟩
      refine ⟨_, rfl, rfl, _, rfl, stepF (by omega) ?_⟩
      refine ⟨_, rfl, rfl, _, rfl, stepF (by omega) ?_⟩
      refine ⟨_, rfl, ?_⟩
      rcases h82 with d | d
      · refine ⟨Nat.zero_le _, fun x1 y1 => ?_⟩
        have s1 := same_upd (o := .lst []) y1
        refine ⟨le1 _, fun x2 y2 => ?_⟩
        have s2 := same_upd (o := .lst [.int (0)]) y2
        refine ⟨le2 _ _, fun x3 y3 => ?_⟩
        have s3 := same_upd (o := .lst [.ref x1, .ref x2]) y3
        refine ⟨_, rfl, _, _, rfl, rfl, ⟨by decide, by decide⟩, _, _, rfl, rfl, (by decide : (0 : Int) < 2), ?_⟩
        refine ⟨x3, _, _, _, rfl, congrArg V.int d, sql upd_same, atI_nat (j := 0) rfl, ?_⟩
        refine ⟨Nat.zero_le _, fun x4 y4 => ?_⟩
        have s4 := same_upd (o := .lst []) y4
        refine ⟨_, rfl, _, _, rfl, rfl, ⟨by decide, by decide⟩, _, _, rfl, rfl, (by decide : (0 : Int) < 2), ?_⟩
        exact ⟨a, x1, x4, 13, 2, _, 10, [], [], rfl, hF.same (Same.trans s1 (Same.trans s2 (Same.trans s3 s4))), sql ((Same.trans s2 (Same.trans s3 s4)) _ _ upd_same), sql upd_same, h162, .inr (.inr ⟨rfl, rfl⟩), (fun z => absurd z (by intro h; rcases h with h | h <;> exact h (by intro x hx; simp at hx <;> omega))), fun _ _ => ⟨.inl rfl, e.on (Same.trans s1 (Same.trans s2 (Same.trans s3 s4)))⟩⟩
      · refine ⟨Nat.zero_le _, fun x1 y1 => ?_⟩
        have s1 := same_upd (o := .lst []) y1
        refine ⟨le1 _, fun x2 y2 => ?_⟩
        have s2 := same_upd (o := .lst [.int (0)]) y2
        refine ⟨le2 _ _, fun x3 y3 => ?_⟩
        have s3 := same_upd (o := .lst [.ref x1, .ref x2]) y3
        refine ⟨_, rfl, _, _, rfl, rfl, ⟨by decide, by decide⟩, _, _, rfl, rfl, (by decide : (0 : Int) < 2), ?_⟩
        refine ⟨x3, _, _, _, rfl, congrArg V.int d, sql upd_same, atI_nat (j := 1) rfl, ?_⟩
        refine ⟨Nat.zero_le _, fun x4 y4 => ?_⟩
        have s4 := same_upd (o := .lst []) y4
        refine ⟨_, rfl, _, _, rfl, rfl, ⟨by decide, by decide⟩, _, _, rfl, rfl, (by decide : (0 : Int) < 2), ?_⟩
        exact ⟨a, x2, x4, 13, 2, _, 10, [0], [], rfl, hF.same (Same.trans s1 (Same.trans s2 (Same.trans s3 s4))), sql ((Same.trans s3 s4) _ _ upd_same), sql upd_same, h162, .inr (.inr ⟨rfl, rfl⟩), (fun z => absurd z (by intro h; rcases h with h | h <;> exact h (by intro x hx; simp at hx <;> omega))), fun _ _ => ⟨.inr (.inl rfl), e.on (Same.trans s1 (Same.trans s2 (Same.trans s3 s4)))⟩⟩
end
end Spw

namespace Spw
open PySem PySem.Spec PyProof.Rows L2 Spm
section
variable {P : Program} {w : World} {K : PySem.W.Frag} {mg : Str → Option Value} {base : Heap}
/-- inverse, of no rest from 1 on -/
def sp_m_inverse (K : PySem.W.Frag) (C : Addr) (D : Exs) : Sp := fun vs H Q E => ∃ (a : Addr) (p x : Int), vs = [.ref a, .int x] ∧ FieldAt C H a p ∧ ¬ (1 ≤ x ∧ x < p) ∧ RE D.R H E
theorem ok_m_inverse (T : Env K mg) : FnOk P w K mg base (L2.CX P w) 2 T.f_m_inverse T.d_m_inverse ["self", "one"] (sp_m_inverse K T.C T.xs) := by
  refine T.F_m_inverse.okX sc_m_inverse (fun vs H Q E h => ?_) (fun cdv A outer s H vs Q E hr h => ?_)
  · obtain ⟨a, p, x, rfl, _⟩ := h
    rfl
  · obtain ⟨a, p, x, rfl, hF, hb, e⟩ := h
    obtain ⟨dx, hF'⟩ := id hF
    refine ⟨_, (pss_cons (ps_expr (pe_meth (pv 0) T.cl_C T.h_m_ask (ok_m_ask T) (hr.mono (by decide)) T.b_m_ask .nil (passes_call (takes_of rfl rfl rfl rfl) (fun _ _ _ _ z => z)) (pa_cons (pe_lst (pa_cons (pv 1) pa_nil)) (pa_cons pe_int pa_nil))))
      pss_never), ?_⟩
    refine ⟨_, rfl, a, dx, _, rfl, hF', ff_no _ (by decide +kernel), _, rfl, le1 _, fun o no => ?_⟩
    have s1 : Same H (upd H o (.lst [.int x])) := same_upd no
    exact ⟨a, o, p, 1, [x], rfl, hF.same s1, sql upd_same, fun k => absurd (k x (List.mem_cons_self ..)) hb, fun _ => e _ s1⟩
end
end Spw

namespace Spw
open PySem PySem.Spec PyProof.Rows L2 Spm
section
variable {P : Program} {w : World} {K : PySem.W.Frag} {mg : Str → Option Value} {base : Heap}
/-- plus, a number that is no rest -/
def sp_m_plus (K : PySem.W.Frag) (C : Addr) (D : Exs) : Sp := fun vs H Q E => ∃ (a : Addr) (p x y : Int), vs = [.ref a, .int x, .int y] ∧ FieldAt C H a p ∧ ¬ (0 ≤ x ∧ x < p ∧ 0 ≤ y ∧ y < p) ∧ RE D.R H E
theorem ok_m_plus (T : Env K mg) : FnOk P w K mg base (L2.CX P w) 2 T.f_m_plus T.d_m_plus ["self", "one", "other"] (sp_m_plus K T.C T.xs) := by
  refine T.F_m_plus.okX sc_m_plus (fun vs H Q E h => ?_) (fun cdv A outer s H vs Q E hr h => ?_)
  · obtain ⟨a, p, x, y, rfl, _⟩ := h
    rfl
  · obtain ⟨a, p, x, y, rfl, hF, hb, e⟩ := h
    obtain ⟨dx, hF'⟩ := id hF
    refine ⟨_, (pss_cons (ps_expr (pe_meth (pv 0) T.cl_C T.h_m_ask (ok_m_ask T) (hr.mono (by decide)) T.b_m_ask .nil (passes_call (takes_of rfl rfl rfl rfl) (fun _ _ _ _ z => z)) (pa_cons (pe_lst (pa_cons (pv 1) (pa_cons (pv 2) pa_nil))) (pa_cons pe_int pa_nil))))
      pss_never), ?_⟩
    refine ⟨_, rfl, a, dx, _, rfl, hF', ff_no _ (by decide +kernel), _, rfl, _, rfl, le2 _ _, fun o no => ?_⟩
    have s1 : Same H (upd H o (.lst [.int x, .int y])) := same_upd no
    refine ⟨a, o, p, 0, [x, y], rfl, hF.same s1, sql upd_same, fun k => absurd ?_ hb, fun _ => e _ s1⟩
    have k1 := k x (List.mem_cons_self ..)
    have k2 := k y (List.mem_cons_of_mem _ (List.mem_cons_self ..))
    exact ⟨k1.1, k1.2, k2.1, k2.2⟩
end
end Spw

namespace Spw
open PySem PySem.Spec PyProof.Rows L2 Spm
section
variable {P : Program} {w : World} {K : PySem.W.Frag} {mg : Str → Option Value} {base : Heap}
/-- power, of no rest or to a power below 0 -/
def sp_m_power (K : PySem.W.Frag) (C : Addr) (D : Exs) : Sp := fun vs H Q E => ∃ (a : Addr) (p x n : Int), vs = [.ref a, .int x, .int n] ∧ FieldAt C H a p ∧ (¬ (0 ≤ x ∧ x < p) ∨ n < 0) ∧ RE D.R H E
theorem ok_m_power (T : Env K mg) : FnOk P w K mg base (L2.CX P w) 2 T.f_m_power T.d_m_power ["self", "one", "often"] (sp_m_power K T.C T.xs) := by
  refine T.F_m_power.okX sc_m_power (fun vs H Q E h => ?_) (fun cdv A outer s H vs Q E hr h => ?_)
  · obtain ⟨a, p, x, n, rfl, _⟩ := h
    rfl
  · obtain ⟨a, p, x, n, rfl, hF, hb, e⟩ := h
    obtain ⟨dx, hF'⟩ := id hF
    refine ⟨_, (pss_cons (ps_expr (pe_meth (pv 0) T.cl_C T.h_m_ask (ok_m_ask T) (hr.mono (by decide)) T.b_m_ask .nil (passes_call (takes_of rfl rfl rfl rfl) (fun _ _ _ _ z => z)) (pa_cons (pe_lst (pa_cons (pv 1) pa_nil)) (pa_cons pe_int pa_nil))))
      (pss_cons (ps_if (pt_cmpR op_lt (pv 2) pe_int (nomark _)) (pss_one (ps_raise rfl (takes_of rfl rfl rfl rfl) (pmk_own PySem.F.excBase_ValueError T.X_NoRest.q T.X_NoRest.g T.X_NoRest.k (raises_own T.X_NoRest.s T.X_NoRest.t) rfl))) pss_nil)
      pss_never)), ?_⟩
    refine ⟨_, rfl, a, dx, _, rfl, hF', ff_no _ (by decide +kernel), _, rfl, le1 _, fun o no => ?_⟩
    have s1 : Same H (upd H o (.lst [.int x])) := same_upd no
    refine ⟨a, o, p, 0, [x], rfl, hF.same s1, sql upd_same, fun k => ?_, fun _ => e _ s1⟩
    have k1 := k x (List.mem_cons_self ..)
    have hn : n < 0 := hb.resolve_left fun z => z k1
    exact ⟨_, rfl, _, _, rfl, rfl, _, rfl, iteD hn (e _ s1)⟩
end
end Spw

namespace Spw
open PySem PySem.Spec PyProof.Rows L2 Spm
section
variable {P : Program} {w : World} {K : PySem.W.Frag} {mg : Str → Option Value} {base : Heap}
/-- times, a number that is no rest -/
def sp_m_times (K : PySem.W.Frag) (C : Addr) (D : Exs) : Sp := fun vs H Q E => ∃ (a : Addr) (p x y : Int), vs = [.ref a, .int x, .int y] ∧ FieldAt C H a p ∧ ¬ (0 ≤ x ∧ x < p ∧ 0 ≤ y ∧ y < p) ∧ RE D.R H E
theorem ok_m_times (T : Env K mg) : FnOk P w K mg base (L2.CX P w) 2 T.f_m_times T.d_m_times ["self", "one", "other"] (sp_m_times K T.C T.xs) := by
  refine T.F_m_times.okX sc_m_times (fun vs H Q E h => ?_) (fun cdv A outer s H vs Q E hr h => ?_)
  · obtain ⟨a, p, x, y, rfl, _⟩ := h
    rfl
  · obtain ⟨a, p, x, y, rfl, hF, hb, e⟩ := h
    obtain ⟨dx, hF'⟩ := id hF
    refine ⟨_, (pss_cons (ps_expr (pe_meth (pv 0) T.cl_C T.h_m_ask (ok_m_ask T) (hr.mono (by decide)) T.b_m_ask .nil (passes_call (takes_of rfl rfl rfl rfl) (fun _ _ _ _ z => z)) (pa_cons (pe_lst (pa_cons (pv 1) (pa_cons (pv 2) pa_nil))) (pa_cons pe_int pa_nil))))
      pss_never), ?_⟩
    refine ⟨_, rfl, a, dx, _, rfl, hF', ff_no _ (by decide +kernel), _, rfl, _, rfl, le2 _ _, fun o no => ?_⟩
    have s1 : Same H (upd H o (.lst [.int x, .int y])) := same_upd no
    refine ⟨a, o, p, 0, [x, y], rfl, hF.same s1, sql upd_same, fun k => absurd ?_ hb, fun _ => e _ s1⟩
    have k1 := k x (List.mem_cons_self ..)
    have k2 := k y (List.mem_cons_of_mem _ (List.mem_cons_self ..))
    exact ⟨k1.1, k1.2, k2.1, k2.2⟩
end
end Spw

namespace Spw
open PySem PySem.Spec PyProof.Rows L2 Spm
section
variable {P : Program} {w : World} {K : PySem.W.Frag} {mg : Str → Option Value} {base : Heap}
/-- _law_one_rest: NoRest -/
def sp_l_one_rest (K : PySem.W.Frag) (C : Addr) (D : Exs) : Sp := fun vs H Q E => ∃ (a : Addr) (cell bad : Int), vs = [.ref a, .int cell, .int bad] ∧ FieldAt C H a ((13 : Nat) : Int) ∧ (bad < 0 ∨ 13 ≤ bad) ∧ RE D.R H E
theorem ok_l_one_rest (T : Env K mg) : FnOk P w K mg base (L2.CX P w) 3 T.f_l_one_rest T.d_l_one_rest ["field", "cell", "bad"] (sp_l_one_rest K T.C T.xs) := by
  refine T.F_l_one_rest.okX sc_l_one_rest (fun vs H Q E h => ?_) (fun cdv A outer s H vs Q E hr h => ?_)
  · obtain ⟨a, cell, bad, rfl, _⟩ := h
    rfl
  · obtain ⟨a, cell, bad, rfl, hF, hb, e⟩ := h
    obtain ⟨dx, hF'⟩ := id hF
    refine ⟨_, (pss_cons (ps_set (i := 3) sc_l_one_rest.nd rfl (Or.inl rfl) (pe_op op_mod (pv 1) pe_int))
      (pss_one (ps_if (pt_cmpR op_eq (pv 3) pe_int (nomark _)) (pss_one (ps_expr (pe_meth (pv 0) T.cl_C T.h_m_plus (ok_m_plus T) (hr.mono (by decide)) T.b_m_plus .nil (passes_call (takes_of rfl rfl rfl rfl) (fun _ _ _ _ z => z)) (pa_cons (pv 2) (pa_cons pe_int pa_nil))))) (pss_one (ps_if (pt_cmpR op_eq (pv 3) pe_int (nomark _)) (pss_one (ps_expr (pe_meth (pv 0) T.cl_C T.h_m_plus (ok_m_plus T) (hr.mono (by decide)) T.b_m_plus .nil (passes_call (takes_of rfl rfl rfl rfl) (fun _ _ _ _ z => z)) (pa_cons pe_int (pa_cons (pv 2) pa_nil))))) (pss_one (ps_if (pt_cmpR op_eq (pv 3) pe_int (nomark _)) (pss_one (ps_expr (pe_meth (pv 0) T.cl_C T.h_m_times (ok_m_times T) (hr.mono (by decide)) T.b_m_times .nil (passes_call (takes_of rfl rfl rfl rfl) (fun _ _ _ _ z => z)) (pa_cons (pv 2) (pa_cons pe_int pa_nil))))) (pss_one (ps_if (pt_cmpR op_eq (pv 3) pe_int (nomark _)) (pss_one (ps_expr (pe_meth (pv 0) T.cl_C T.h_m_times (ok_m_times T) (hr.mono (by decide)) T.b_m_times .nil (passes_call (takes_of rfl rfl rfl rfl) (fun _ _ _ _ z => z)) (pa_cons pe_int (pa_cons (pv 2) pa_nil))))) (pss_one (ps_if (pt_cmpR op_eq (pv 3) pe_int (nomark _)) (pss_one (ps_expr (pe_meth (pv 0) T.cl_C T.h_m_power (ok_m_power T) (hr.mono (by decide)) T.b_m_power .nil (passes_call (takes_of rfl rfl rfl rfl) (fun _ _ _ _ z => z)) (pa_cons (pv 2) (pa_cons pe_int pa_nil))))) (pss_one (ps_if (pt_cmpR op_eq (pv 3) pe_int (nomark _)) (pss_one (ps_expr (pe_meth (pv 0) T.cl_C T.h_m_power (ok_m_power T) (hr.mono (by decide)) T.b_m_power .nil (passes_call (takes_of rfl rfl rfl rfl) (fun _ _ _ _ z => z)) (pa_cons pe_int (pa_cons (pe_op op_sub (pe_un un_neg pe_int) (pe_callB call_abs (by rfl) T.n_abs (by decide +kernel) (pa_cons (pv 2) pa_nil))) pa_nil))))) (pss_one (ps_if (pt_cmpR op_eq (pv 3) pe_int (nomark _)) (pss_one (ps_expr (pe_meth (pv 0) T.cl_C T.h_m_inverse (ok_m_inverse T) (hr.mono (by decide)) T.b_m_inverse .nil (passes_call (takes_of rfl rfl rfl rfl) (fun _ _ _ _ z => z)) (pa_cons (pe_ix ix_list (pe_lst (pa_cons (pv 2) (pa_cons pe_int pa_nil))) (pe_op op_mod (pe_op op_fdiv (pv 1) pe_int) pe_int) (fun _ _ => rfl)) pa_nil)))) (pss_one (ps_expr (pe_meth (pv 0) T.cl_C T.h_m_order (ok_m_order T) (hr.mono (by decide)) T.b_m_order .nil (passes_call (takes_of rfl rfl rfl rfl) (fun _ _ _ _ z => z)) (pa_cons (pe_ix ix_list (pe_lst (pa_cons (pv 2) (pa_cons pe_int pa_nil))) (pe_op op_mod (pe_op op_fdiv (pv 1) pe_int) pe_int) (fun _ _ => rfl)) pa_nil))))))))))))))))))), ?_⟩
    refine ⟨_, rfl, _, _, rfl, rfl, (by decide : (0 : Int) < 8), ?_⟩
    have hw : cell % 8 = 0 ∨ cell % 8 = 1 ∨ cell % 8 = 2 ∨ cell % 8 = 3 ∨ cell % 8 = 4 ∨ cell % 8 = 5 ∨ cell % 8 = 6 ∨ cell % 8 = 7 := by omega
    have hc : cell / 8 % 2 = 0 ∨ cell / 8 % 2 = 1 := by omega
    rcases hw with c | c | c | c | c | c | c | c
    · refine ⟨_, rfl, rfl, _, rfl, stepT c ?_⟩
      exact ⟨_, rfl, a, dx, _, rfl, hF', ff_no _ (by decide +kernel), _, rfl, a, 13, bad, 3, rfl, hF, by omega, e⟩
    · refine ⟨_, rfl, rfl, _, rfl, stepF (by omega) ?_⟩
      refine ⟨_, rfl, rfl, _, rfl, stepT c ?_⟩
      exact ⟨_, rfl, a, dx, _, rfl, hF', ff_no _ (by decide +kernel), _, rfl, a, 13, 3, bad, rfl, hF, by omega, e⟩
    · refine ⟨_, rfl, rfl, _, rfl, stepF (by omega) ?_⟩
      refine ⟨_, rfl, rfl, _, rfl, stepF (by omega) ?_⟩
      refine ⟨_, rfl, rfl, _, rfl, stepT c ?_⟩
      exact ⟨_, rfl, a, dx, _, rfl, hF', ff_no _ (by decide +kernel), _, rfl, a, 13, bad, 3, rfl, hF, by omega, e⟩
    · refine ⟨_, rfl, rfl, _, rfl, stepF (by omega) ?_⟩
      refine ⟨_, rfl, rfl, _, rfl, stepF (by omega) ?_⟩
      refine ⟨_, rfl, rfl, _, rfl, stepF (by omega) ?_⟩
      refine ⟨_, rfl, rfl, _, rfl, stepT c ?_⟩
      exact ⟨_, rfl, a, dx, _, rfl, hF', ff_no _ (by decide +kernel), _, rfl, a, 13, 3, bad, rfl, hF, by omega, e⟩
    · refine ⟨_, rfl, rfl, _, rfl, stepF (by omega) ?_⟩
      refine ⟨_, rfl, rfl, _, rfl, stepF (by omega) ?_⟩
      refine ⟨_, rfl, rfl, _, rfl, stepF (by omega) ?_⟩
      refine ⟨_, rfl, rfl, _, rfl, stepF (by omega) ?_⟩
      refine ⟨_, rfl, rfl, _, rfl, stepT c ?_⟩
      exact ⟨_, rfl, a, dx, _, rfl, hF', ff_no _ (by decide +kernel), _, rfl, a, 13, bad, 3, rfl, hF, .inl (by omega), e⟩
    · refine ⟨_, rfl, rfl, _, rfl, stepF (by omega) ?_⟩
      refine ⟨_, rfl, rfl, _, rfl, stepF (by omega) ?_⟩
      refine ⟨_, rfl, rfl, _, rfl, stepF (by omega) ?_⟩
      refine ⟨_, rfl, rfl, _, rfl, stepF (by omega) ?_⟩
      refine ⟨_, rfl, rfl, _, rfl, stepF (by omega) ?_⟩
      refine ⟨_, rfl, rfl, _, rfl, stepT c ?_⟩
      exact ⟨_, rfl, a, dx, _, rfl, hF', ff_no _ (by decide +kernel), _, rfl, _, rfl, _, rfl, _, _, rfl, rfl, a, 13, 3, -1 - (if bad < 0 then -bad else bad), rfl, hF, .inr (by split <;> omega), e⟩
    · refine ⟨_, rfl, rfl, _, rfl, stepF (by omega) ?_⟩
      refine ⟨_, rfl, rfl, _, rfl, stepF (by omega) ?_⟩
      refine ⟨_, rfl, rfl, _, rfl, stepF (by omega) ?_⟩
      refine ⟨_, rfl, rfl, _, rfl, stepF (by omega) ?_⟩
      refine ⟨_, rfl, rfl, _, rfl, stepF (by omega) ?_⟩
      refine ⟨_, rfl, rfl, _, rfl, stepF (by omega) ?_⟩
      refine ⟨_, rfl, rfl, _, rfl, stepT c ?_⟩
      refine ⟨_, rfl, a, dx, _, rfl, hF', ff_no _ (by decide +kernel), _, rfl, le2 _ _, fun l nl => ?_⟩
      refine ⟨_, rfl, _, _, rfl, rfl, ⟨by decide, by decide⟩, _, _, rfl, rfl, (by decide : (0 : Int) < 2), ?_⟩
      rcases hc with d | d
      · exact ⟨l, _, _, _, rfl, congrArg V.int d, sql upd_same, atI_nat (j := 0) rfl, a, 13, bad, rfl, hF.same (same_upd nl), by omega, e.on (same_upd nl)⟩
      · exact ⟨l, _, _, _, rfl, congrArg V.int d, sql upd_same, atI_nat (j := 1) rfl, a, 13, 0, rfl, hF.same (same_upd nl), by omega, e.on (same_upd nl)⟩
    · refine ⟨_, rfl, rfl, _, rfl, stepF (by omega) ?_⟩
      refine ⟨_, rfl, rfl, _, rfl, stepF (by omega) ?_⟩
      refine ⟨_, rfl, rfl, _, rfl, stepF (by omega) ?_⟩
      refine ⟨_, rfl, rfl, _, rfl, stepF (by omega) ?_⟩
      refine ⟨_, rfl, rfl, _, rfl, stepF (by omega) ?_⟩
      refine ⟨_, rfl, rfl, _, rfl, stepF (by omega) ?_⟩
      refine ⟨_, rfl, rfl, _, rfl, stepF (by omega) ?_⟩
      refine ⟨_, rfl, a, dx, _, rfl, hF', ff_no _ (by decide +kernel), _, rfl, le2 _ _, fun l nl => ?_⟩
      refine ⟨_, rfl, _, _, rfl, rfl, ⟨by decide, by decide⟩, _, _, rfl, rfl, (by decide : (0 : Int) < 2), ?_⟩
      rcases hc with d | d
      · exact ⟨l, _, _, _, rfl, congrArg V.int d, sql upd_same, atI_nat (j := 0) rfl, a, 13, bad, rfl, hF.same (same_upd nl), by decide, by decide, fun z z2 => absurd z (by omega), fun _ => e.on (same_upd nl)⟩
      · exact ⟨l, _, _, _, rfl, congrArg V.int d, sql upd_same, atI_nat (j := 1) rfl, a, 13, 0, rfl, hF.same (same_upd nl), by decide, by decide, fun z z2 => absurd z (by omega), fun _ => e.on (same_upd nl)⟩
end
end Spw

namespace Spw
open PySem PySem.Spec PyProof.Rows L2 Spm
section
variable {P : Program} {w : World} {K : PySem.W.Frag} {mg : Str → Option Value} {base : Heap}
/-- _law_row_rest: NoRest -/
def sp_l_row_rest (K : PySem.W.Frag) (C : Addr) (D : Exs) : Sp := fun vs H Q E => ∃ (a : Addr) (cell bad : Int), vs = [.ref a, .int cell, .int bad] ∧ FieldAt C H a ((13 : Nat) : Int) ∧ (bad < 0 ∨ 13 ≤ bad) ∧ RE D.R H E
theorem ok_l_row_rest (T : Env K mg) : FnOk P w K mg base (L2.CX P w) 6 T.f_l_row_rest T.d_l_row_rest ["field", "cell", "bad"] (sp_l_row_rest K T.C T.xs) := by
  refine T.F_l_row_rest.okX sc_l_row_rest (fun vs H Q E h => ?_) (fun cdv A outer s H vs Q E hr h => ?_)
  · obtain ⟨a, cell, bad, rfl, _⟩ := h
    rfl
  · obtain ⟨a, cell, bad, rfl, hF, hb, e⟩ := h
    refine ⟨_, (pss_cons (ps_set (i := 3) sc_l_row_rest.nd rfl (Or.inl rfl) (pe_op op_mod (pv 1) pe_int))
      (pss_cons (ps_set (i := 4) sc_l_row_rest.nd rfl (Or.inl rfl) (pe_lst (pa_cons pe_int (pa_cons pe_int (pa_cons pe_int pa_nil)))))
      (pss_cons (ps_expr (pe_bm PySem.F.plainAttrs_list PySem.F.slot_list_insert PySem.F.type_list_insert mt_insert (pv 4) (pa_cons (pe_op op_mod (pe_op op_fdiv (pv 1) pe_int) pe_int) (pa_cons (pv 2) pa_nil))))
      (pss_one (ps_if (pt_cmpR op_eq (pv 3) pe_int (nomark _)) (pss_one (ps_expr (pe_call (ok_turned T) (hr.mono (by decide)) (by rfl) T.g_turned T.F_turned.kp T.b_turned .nil (passes_call (takes_of rfl rfl rfl rfl) (fun _ _ _ _ z => z)) (pa_cons (pv 0) (pa_cons (pe_ix ix_list (pe_lst (pa_cons (pv 2) (pa_cons pe_int (pa_cons pe_int pa_nil)))) (pe_op op_mod (pe_op op_fdiv (pv 1) pe_int) pe_int) (fun _ _ => rfl)) (pa_cons (pe_ifExp (pt_cmpR op_lt (pe_op op_mod (pe_op op_fdiv (pv 1) pe_int) pe_int) pe_int (nomark _)) (pe_lst (pa_cons pe_int (pa_cons pe_int (pa_cons pe_int pa_nil)))) (pv 4)) pa_nil)))))) (pss_one (ps_if (pt_cmpR op_eq (pv 3) pe_int (nomark _)) (pss_one (ps_expr (pe_call (ok_turned_back T) (hr.mono (by decide)) (by rfl) T.g_turned_back T.F_turned_back.kp T.b_turned_back .nil (passes_call (takes_of rfl rfl rfl rfl) (fun _ _ _ _ z => z)) (pa_cons (pv 0) (pa_cons (pe_ix ix_list (pe_lst (pa_cons (pv 2) (pa_cons pe_int (pa_cons pe_int pa_nil)))) (pe_op op_mod (pe_op op_fdiv (pv 1) pe_int) pe_int) (fun _ _ => rfl)) (pa_cons (pe_ifExp (pt_cmpR op_lt (pe_op op_mod (pe_op op_fdiv (pv 1) pe_int) pe_int) pe_int (nomark _)) (pe_lst pa_nil) (pv 4)) pa_nil)))))) (pss_one (ps_if (pt_cmpR op_eq (pv 3) pe_int (nomark _)) (pss_one (ps_expr (pe_call (ok_worth_at T) (hr.mono (by decide)) (by rfl) T.g_worth_at T.F_worth_at.kp T.b_worth_at .nil (passes_call (takes_of rfl rfl rfl rfl) (fun _ _ _ _ z => z)) (pa_cons (pv 0) (pa_cons (pv 4) (pa_cons pe_int pa_nil)))))) (pss_one (ps_if (pt_cmpR op_eq (pv 3) pe_int (nomark _)) (pss_one (ps_expr (pe_call (ok_worth_at T) (hr.mono (by decide)) (by rfl) T.g_worth_at T.F_worth_at.kp T.b_worth_at .nil (passes_call (takes_of rfl rfl rfl rfl) (fun _ _ _ _ z => z)) (pa_cons (pv 0) (pa_cons (pe_lst pa_nil) (pa_cons (pv 2) pa_nil)))))) (pss_one (ps_if (pt_cmpR op_eq (pv 3) pe_int (nomark _)) (pss_one (ps_expr (pe_call (ok_l_two T) (hr.mono (by decide)) (by rfl) T.g_l_two T.F_l_two.kp T.b_l_two .nil (passes_call (takes_of rfl rfl rfl rfl) (fun _ _ _ _ z => z)) (pa_cons pe_int (pa_cons (pv 0) (pa_cons (pv 4) (pa_cons (pe_lst (pa_cons pe_int (pa_cons pe_int pa_nil))) (pa_cons (pe_op op_mod (pe_op op_fdiv (pv 1) pe_int) pe_int) pa_nil)))))))) (pss_one (ps_if (pt_cmpR op_eq (pv 3) pe_int (nomark _)) (pss_one (ps_expr (pe_call (ok_l_two T) (hr.mono (by decide)) (by rfl) T.g_l_two T.F_l_two.kp T.b_l_two .nil (passes_call (takes_of rfl rfl rfl rfl) (fun _ _ _ _ z => z)) (pa_cons pe_int (pa_cons (pv 0) (pa_cons (pe_lst pa_nil) (pa_cons (pv 4) (pa_cons (pe_op op_mod (pe_op op_fdiv (pv 1) pe_int) pe_int) pa_nil)))))))) (pss_one (ps_if (pt_cmpR op_eq (pv 3) pe_int (nomark _)) (pss_one (ps_expr (pe_call (ok_row_through T) (hr.mono (by decide)) (by rfl) T.g_row_through T.F_row_through.kp T.b_row_through .nil (passes_call (takes_of rfl rfl rfl rfl) (fun _ _ _ _ z => z)) (pa_cons (pv 0) (pa_cons (pe_lst (pa_cons (pe_tup (pa_cons pe_int (pa_cons pe_int pa_nil))) (pa_cons (pe_tup (pa_cons pe_int (pa_cons pe_int pa_nil))) (pa_cons (pe_tup (pa_cons (pv 2) (pa_cons pe_int pa_nil))) pa_nil)))) pa_nil))))) (pss_one (ps_if (pt_cmpR op_eq (pv 3) pe_int (nomark _)) (pss_one (ps_expr (pe_call (ok_row_through T) (hr.mono (by decide)) (by rfl) T.g_row_through T.F_row_through.kp T.b_row_through .nil (passes_call (takes_of rfl rfl rfl rfl) (fun _ _ _ _ z => z)) (pa_cons (pv 0) (pa_cons (pe_lst (pa_cons (pe_tup (pa_cons pe_int (pa_cons pe_int pa_nil))) (pa_cons (pe_tup (pa_cons pe_int (pa_cons (pv 2) pa_nil))) (pa_cons (pe_tup (pa_cons pe_int (pa_cons pe_int pa_nil))) pa_nil)))) pa_nil))))) (pss_cons (ps_set (i := 5) sc_l_row_rest.nd rfl (Or.inl rfl) (pe_lst (pa_cons pe_int (pa_cons pe_int (pa_cons pe_int pa_nil)))))
      (pss_cons (ps_expr (pe_bm PySem.F.plainAttrs_list PySem.F.slot_list_insert PySem.F.type_list_insert mt_insert (pv 5) (pa_cons (pe_op op_mod (pe_op op_fdiv (pv 1) pe_int) pe_int) (pa_cons (pe_ix ix_list (pe_lst (pa_cons pe_int (pa_cons (pe_un un_neg pe_int) (pa_cons (pv 2) pa_nil)))) (pe_op op_mod (pe_op op_fdiv (pv 1) pe_int) pe_int) (fun _ _ => rfl)) pa_nil))))
      (pss_one (ps_expr (pe_call (ok_l_two T) (hr.mono (by decide)) (by rfl) T.g_l_two T.F_l_two.kp T.b_l_two .nil (passes_call (takes_of rfl rfl rfl rfl) (fun _ _ _ _ z => z)) (pa_cons pe_int (pa_cons (pv 0) (pa_cons (pe_ix ix_list (pe_lst (pa_cons (pe_lst pa_nil) (pa_cons (pv 5) (pa_cons (pe_lst (pa_cons pe_int pa_nil)) pa_nil)))) (pe_op op_mod (pe_op op_fdiv (pv 1) pe_int) pe_int) (fun _ _ => rfl)) (pa_cons (pv 5) (pa_cons (pe_op op_mod (pe_op op_fdiv (pv 1) pe_int) pe_int) pa_nil))))))))))))))))))))))))))))), ?_⟩
    refine ⟨_, rfl, _, _, rfl, rfl, (by decide : (0 : Int) < 9), ?_⟩
    have hw : cell % 9 = 0 ∨ cell % 9 = 1 ∨ cell % 9 = 2 ∨ cell % 9 = 3 ∨ cell % 9 = 4 ∨ cell % 9 = 5 ∨ cell % 9 = 6 ∨ cell % 9 = 7 ∨ cell % 9 = 8 := by omega
    have h363 : cell / 36 % 3 = 0 ∨ cell / 36 % 3 = 1 ∨ cell / 36 % 3 = 2 := by omega
    have h362 : cell / 36 % 2 = 0 ∨ cell / 36 % 2 = 1 := by omega
    have h1083 : cell / 108 % 3 = 0 ∨ cell / 108 % 3 = 1 ∨ cell / 108 % 3 = 2 := by omega
    have h3242 : cell / 324 % 2 = 0 ∨ cell / 324 % 2 = 1 := by omega
    refine ⟨le3 _ _ _, fun x1 y1 => ?_⟩
    refine ⟨_, rfl, .inl ⟨rfl, _, sql upd_same⟩, _, rfl, _, _, rfl, rfl, ⟨by decide, by decide⟩, _, _, rfl, rfl, (by decide : (0 : Int) < 4), _, rfl, x1, _, _, _, rfl, rfl, upd_same, small1000 (by show 3 ≤ 1000; decide), (by omega : (0 : Int) ≤ cell / 9 % 4), Int.lt_trans (by omega : cell / 9 % 4 < 4) (by decide), ?_⟩
    have s1 := Same.over (o := .lst ((il [3, 0, 12]).take (cell / 9 % 4).toNat ++ [.int bad] ++ (il [3, 0, 12]).drop (cell / 9 % 4).toNat)) (same_upd (o := .lst [.int 3, .int 0, .int 12]) y1) y1
    have hm := mem_ins [3, 0, 12] (cell / 9 % 4) bad
    have hne := ins_ne [3, 0, 12] (cell / 9 % 4) bad
    rcases hw with c | c | c | c | c | c | c | c | c
    · refine ⟨_, rfl, rfl, _, rfl, stepT c ?_⟩
      refine ⟨_, rfl, _, rfl, ?_⟩
      refine ⟨le3 _ _ _, fun x2 y2 => ?_⟩
      have s2 := same_upd (o := .lst [.int bad, .int 0, .int 1]) y2
      refine ⟨_, rfl, _, _, rfl, rfl, ⟨by decide, by decide⟩, _, _, rfl, rfl, (by decide : (0 : Int) < 3), ?_⟩
      rcases h363 with d | d | d
      · refine ⟨x2, _, _, _, rfl, congrArg V.int d, sql upd_same, atI_nat (j := 0) rfl, ?_⟩
        refine ⟨_, rfl, _, _, rfl, rfl, ⟨by decide, by decide⟩, _, _, rfl, rfl, (by decide : (0 : Int) < 3), _, _, rfl, rfl, _, rfl, ?_⟩
        refine iteD (by omega) ?_
        refine ⟨le3 _ _ _, fun x3 y3 => ?_⟩
        have s3 := same_upd (o := .lst [.int (1), .int (2), .int (3)]) y3
        exact ⟨a, x3, 13, [1, 2, 3], bad, rfl, hF.same (Same.trans s1 (Same.trans s2 s3)), good13, sql upd_same, fun _ => e.on (Same.trans s1 (Same.trans s2 s3)), fun h1 h2 => absurd h2 (by omega), fun h1 h2 => absurd h2 (by omega)⟩
      · refine ⟨x2, _, _, _, rfl, congrArg V.int d, sql upd_same, atI_nat (j := 1) rfl, ?_⟩
        refine ⟨_, rfl, _, _, rfl, rfl, ⟨by decide, by decide⟩, _, _, rfl, rfl, (by decide : (0 : Int) < 3), _, _, rfl, rfl, _, rfl, ?_⟩
        refine iteD (by omega) ?_
        refine ⟨le3 _ _ _, fun x3 y3 => ?_⟩
        have s3 := same_upd (o := .lst [.int (1), .int (2), .int (3)]) y3
        exact ⟨a, x3, 13, [1, 2, 3], 0, rfl, hF.same (Same.trans s1 (Same.trans s2 s3)), good13, sql upd_same, fun _ => e.on (Same.trans s1 (Same.trans s2 s3)), fun h1 _ => absurd h1 (by decide), fun h1 _ => absurd h1 (by decide)⟩
      · refine ⟨x2, _, _, _, rfl, congrArg V.int d, sql upd_same, atI_nat (j := 2) rfl, ?_⟩
        refine ⟨_, rfl, _, _, rfl, rfl, ⟨by decide, by decide⟩, _, _, rfl, rfl, (by decide : (0 : Int) < 3), _, _, rfl, rfl, _, rfl, ?_⟩
        refine iteDF (by omega) ?_
        refine ⟨_, rfl, ?_⟩
        exact ⟨a, x1, 13, insI [3, 0, 12] (cell / 9 % 4) bad, 1, rfl, hF.same (Same.trans s1 s2), good13, sql (s2 _ _ (upd_same.trans (congrArg (fun z => some (HO.lst z)) (il_ins [3, 0, 12] (cell / 9 % 4) bad)))), fun _ => e.on (Same.trans s1 s2), fun _ _ en => absurd en hne, fun _ _ hr => absurd (hr bad hm) (by omega)⟩
    · refine ⟨_, rfl, rfl, _, rfl, stepF (by omega) ?_⟩
      refine ⟨_, rfl, rfl, _, rfl, stepT c ?_⟩
      refine ⟨_, rfl, _, rfl, ?_⟩
      refine ⟨le3 _ _ _, fun x2 y2 => ?_⟩
      have s2 := same_upd (o := .lst [.int bad, .int 0, .int 1]) y2
      refine ⟨_, rfl, _, _, rfl, rfl, ⟨by decide, by decide⟩, _, _, rfl, rfl, (by decide : (0 : Int) < 3), ?_⟩
      rcases h363 with d | d | d
      · refine ⟨x2, _, _, _, rfl, congrArg V.int d, sql upd_same, atI_nat (j := 0) rfl, ?_⟩
        refine ⟨_, rfl, _, _, rfl, rfl, ⟨by decide, by decide⟩, _, _, rfl, rfl, (by decide : (0 : Int) < 3), _, _, rfl, rfl, _, rfl, ?_⟩
        refine iteD (by omega) ?_
        refine ⟨Nat.zero_le _, fun x3 y3 => ?_⟩
        have s3 := same_upd (o := .lst []) y3
        exact ⟨a, x3, 13, [], bad, rfl, hF.same (Same.trans s1 (Same.trans s2 s3)), good13, sql upd_same, fun _ => e.on (Same.trans s1 (Same.trans s2 s3)), fun h1 h2 => absurd h2 (by omega), fun h1 h2 => absurd h2 (by omega)⟩
      · refine ⟨x2, _, _, _, rfl, congrArg V.int d, sql upd_same, atI_nat (j := 1) rfl, ?_⟩
        refine ⟨_, rfl, _, _, rfl, rfl, ⟨by decide, by decide⟩, _, _, rfl, rfl, (by decide : (0 : Int) < 3), _, _, rfl, rfl, _, rfl, ?_⟩
        refine iteD (by omega) ?_
        refine ⟨Nat.zero_le _, fun x3 y3 => ?_⟩
        have s3 := same_upd (o := .lst []) y3
        exact ⟨a, x3, 13, [], 0, rfl, hF.same (Same.trans s1 (Same.trans s2 s3)), good13, sql upd_same, fun _ => e.on (Same.trans s1 (Same.trans s2 s3)), fun h1 _ => absurd h1 (by decide), fun h1 _ => absurd h1 (by decide)⟩
      · refine ⟨x2, _, _, _, rfl, congrArg V.int d, sql upd_same, atI_nat (j := 2) rfl, ?_⟩
        refine ⟨_, rfl, _, _, rfl, rfl, ⟨by decide, by decide⟩, _, _, rfl, rfl, (by decide : (0 : Int) < 3), _, _, rfl, rfl, _, rfl, ?_⟩
        refine iteDF (by omega) ?_
        refine ⟨_, rfl, ?_⟩
        exact ⟨a, x1, 13, insI [3, 0, 12] (cell / 9 % 4) bad, 1, rfl, hF.same (Same.trans s1 s2), good13, sql (s2 _ _ (upd_same.trans (congrArg (fun z => some (HO.lst z)) (il_ins [3, 0, 12] (cell / 9 % 4) bad)))), fun _ => e.on (Same.trans s1 s2), fun _ _ en => absurd en hne, fun _ _ hr => absurd (hr bad hm) (by omega)⟩
    · refine ⟨_, rfl, rfl, _, rfl, stepF (by omega) ?_⟩
      refine ⟨_, rfl, rfl, _, rfl, stepF (by omega) ?_⟩
      refine ⟨_, rfl, rfl, _, rfl, stepT c ?_⟩
      exact ⟨_, rfl, _, rfl, a, x1, 13, insI [3, 0, 12] (cell / 9 % 4) bad, 5, rfl, hF.same s1, sql (upd_same.trans (congrArg (fun z => some (HO.lst z)) (il_ins [3, 0, 12] (cell / 9 % 4) bad))), fun _ => e.on s1, fun _ _ hr => absurd (hr bad hm) (by omega)⟩
    · refine ⟨_, rfl, rfl, _, rfl, stepF (by omega) ?_⟩
      refine ⟨_, rfl, rfl, _, rfl, stepF (by omega) ?_⟩
      refine ⟨_, rfl, rfl, _, rfl, stepF (by omega) ?_⟩
      refine ⟨_, rfl, rfl, _, rfl, stepT c ?_⟩
      refine ⟨_, rfl, ?_⟩
      refine ⟨Nat.zero_le _, fun x2 y2 => ?_⟩
      have s2 := same_upd (o := .lst []) y2
      exact ⟨_, rfl, a, x2, 13, [], bad, rfl, hF.same (Same.trans s1 s2), sql upd_same, fun _ => e.on (Same.trans s1 s2), fun _ h1 => absurd h1 (by omega)⟩
    · refine ⟨_, rfl, rfl, _, rfl, stepF (by omega) ?_⟩
      refine ⟨_, rfl, rfl, _, rfl, stepF (by omega) ?_⟩
      refine ⟨_, rfl, rfl, _, rfl, stepF (by omega) ?_⟩
      refine ⟨_, rfl, rfl, _, rfl, stepF (by omega) ?_⟩
      refine ⟨_, rfl, rfl, _, rfl, stepT c ?_⟩
      refine ⟨_, rfl, _, rfl, ?_⟩
      refine ⟨le2 _ _, fun x2 y2 => ?_⟩
      have s2 := same_upd (o := .lst [.int (1), .int (2)]) y2
      refine ⟨_, rfl, _, _, rfl, rfl, ⟨by decide, by decide⟩, _, _, rfl, rfl, (by decide : (0 : Int) < 2), ?_⟩
      exact ⟨a, x1, x2, 13, 0, _, 13, insI [3, 0, 12] (cell / 9 % 4) bad, [1, 2], rfl, hF.same (Same.trans s1 s2), sql (s2 _ _ (upd_same.trans (congrArg (fun z => some (HO.lst z)) (il_ins [3, 0, 12] (cell / 9 % 4) bad)))), sql upd_same, h362, .inl ⟨rfl, rfl⟩, fun _ => e.on (Same.trans s1 s2), fun h1 _ => absurd (h1 bad hm) (by omega)⟩
    · refine ⟨_, rfl, rfl, _, rfl, stepF (by omega) ?_⟩
      refine ⟨_, rfl, rfl, _, rfl, stepF (by omega) ?_⟩
      refine ⟨_, rfl, rfl, _, rfl, stepF (by omega) ?_⟩
      refine ⟨_, rfl, rfl, _, rfl, stepF (by omega) ?_⟩
      refine ⟨_, rfl, rfl, _, rfl, stepF (by omega) ?_⟩
      refine ⟨_, rfl, rfl, _, rfl, stepT c ?_⟩
      refine ⟨_, rfl, ?_⟩
      refine ⟨Nat.zero_le _, fun x2 y2 => ?_⟩
      have s2 := same_upd (o := .lst []) y2
      refine ⟨_, rfl, _, rfl, _, _, rfl, rfl, ⟨by decide, by decide⟩, _, _, rfl, rfl, (by decide : (0 : Int) < 2), ?_⟩
      exact ⟨a, x2, x1, 13, 1, _, 13, [], insI [3, 0, 12] (cell / 9 % 4) bad, rfl, hF.same (Same.trans s1 s2), sql upd_same, sql (s2 _ _ (upd_same.trans (congrArg (fun z => some (HO.lst z)) (il_ins [3, 0, 12] (cell / 9 % 4) bad)))), h362, .inr (.inl ⟨rfl, rfl⟩), fun _ => e.on (Same.trans s1 s2), fun _ h2 => absurd (h2 bad hm) (by omega)⟩
    · refine ⟨_, rfl, rfl, _, rfl, stepF (by omega) ?_⟩
      refine ⟨_, rfl, rfl, _, rfl, stepF (by omega) ?_⟩
      refine ⟨_, rfl, rfl, _, rfl, stepF (by omega) ?_⟩
      refine ⟨_, rfl, rfl, _, rfl, stepF (by omega) ?_⟩
      refine ⟨_, rfl, rfl, _, rfl, stepF (by omega) ?_⟩
      refine ⟨_, rfl, rfl, _, rfl, stepF (by omega) ?_⟩
      refine ⟨_, rfl, rfl, _, rfl, stepT c ?_⟩
      refine ⟨_, rfl, ?_⟩
      refine ⟨le2 _ _, fun x2 y2 => ?_⟩
      have s2 := same_upd (o := .tup [.int 1, .int 2]) y2
      refine ⟨le2 _ _, fun x3 y3 => ?_⟩
      have s3 := same_upd (o := .tup [.int 1, .int 3]) y3
      refine ⟨_, rfl, ?_⟩
      refine ⟨le2 _ _, fun x4 y4 => ?_⟩
      have s4 := same_upd (o := .tup [.int bad, .int 4]) y4
      refine ⟨le3 _ _ _, fun x5 y5 => ?_⟩
      have s5 := same_upd (o := .lst [.ref x2, .ref x3, .ref x4]) y5
      exact ⟨a, x5, 13, [(1, 2), (1, 3), (bad, 4)], [x2, x3, x4], rfl, hF.same (Same.trans s1 (Same.trans s2 (Same.trans s3 (Same.trans s4 s5)))), pts3 upd_same ((Same.trans s3 (Same.trans s4 s5)) _ _ upd_same) ((Same.trans s4 s5) _ _ upd_same) (s5 _ _ upd_same), (by show 3 ≤ 100; decide), fun _ => e.on (Same.trans s1 (Same.trans s2 (Same.trans s3 (Same.trans s4 s5)))), fun h1 _ => absurd (h1 bad (by simp)) (by omega)⟩
    · refine ⟨_, rfl, rfl, _, rfl, stepF (by omega) ?_⟩
      refine ⟨_, rfl, rfl, _, rfl, stepF (by omega) ?_⟩
      refine ⟨_, rfl, rfl, _, rfl, stepF (by omega) ?_⟩
      refine ⟨_, rfl, rfl, _, rfl, stepF (by omega) ?_⟩
      refine ⟨_, rfl, rfl, _, rfl, stepF (by omega) ?_⟩
      refine ⟨_, rfl, rfl, _, rfl, stepF (by omega) ?_⟩
      refine ⟨_, rfl, rfl, _, rfl, stepF (by omega) ?_⟩
      refine ⟨_, rfl, rfl, _, rfl, stepT c ?_⟩
      refine ⟨_, rfl, ?_⟩
      refine ⟨le2 _ _, fun x2 y2 => ?_⟩
      have s2 := same_upd (o := .tup [.int 1, .int 2]) y2
      refine ⟨_, rfl, ?_⟩
      refine ⟨le2 _ _, fun x3 y3 => ?_⟩
      have s3 := same_upd (o := .tup [.int 3, .int bad]) y3
      refine ⟨le2 _ _, fun x4 y4 => ?_⟩
      have s4 := same_upd (o := .tup [.int 1, .int 5]) y4
      refine ⟨le3 _ _ _, fun x5 y5 => ?_⟩
      have s5 := same_upd (o := .lst [.ref x2, .ref x3, .ref x4]) y5
      exact ⟨a, x5, 13, [(1, 2), (3, bad), (1, 5)], [x2, x3, x4], rfl, hF.same (Same.trans s1 (Same.trans s2 (Same.trans s3 (Same.trans s4 s5)))), pts3 upd_same ((Same.trans s3 (Same.trans s4 s5)) _ _ upd_same) ((Same.trans s4 s5) _ _ upd_same) (s5 _ _ upd_same), (by show 3 ≤ 100; decide), fun _ => e.on (Same.trans s1 (Same.trans s2 (Same.trans s3 (Same.trans s4 s5)))), fun _ h2 => absurd (h2 bad (by simp)) (by omega)⟩
    · refine ⟨_, rfl, rfl, _, rfl, stepF (by omega) ?_⟩
      refine ⟨_, rfl, rfl, _, rfl, stepF (by omega) ?_⟩
      refine ⟨_, rfl, rfl, _, rfl, stepF (by omega) ?_⟩
      refine ⟨_, rfl, rfl, _, rfl, stepF (by omega) ?_⟩
      refine ⟨_, rfl, rfl, _, rfl, stepF (by omega) ?_⟩
      refine ⟨_, rfl, rfl, _, rfl, stepF (by omega) ?_⟩
      refine ⟨_, rfl, rfl, _, rfl, stepF (by omega) ?_⟩
      refine ⟨_, rfl, rfl, _, rfl, stepF (by omega) ?_⟩
      refine ⟨le3 _ _ _, fun x2 y2 => ?_⟩
      have s2 := same_upd (o := .lst [.int (3), .int (0), .int (9)]) y2
      refine ⟨_, rfl, .inl ⟨rfl, _, sql upd_same⟩, _, rfl, _, _, rfl, rfl, ⟨by decide, by decide⟩, _, _, rfl, rfl, (by decide : (0 : Int) < 4), _, rfl, _, rfl, ?_⟩
      refine ⟨le3 _ _ _, fun x3 y3 => ?_⟩
      have s3 := same_upd (o := .lst [.int 10, .int (-1), .int bad]) y3
      obtain ⟨y, hy, hat⟩ := menuF (bad := bad) (c := cell / 36 % 3) hb (by omega) (by omega)
      refine ⟨_, rfl, _, _, rfl, rfl, ⟨by decide, by decide⟩, _, _, rfl, rfl, (by decide : (0 : Int) < 3), x3, _, _, _, rfl, rfl, sql upd_same, hat, x2, _, _, _, rfl, rfl, (s3 _ _ upd_same), small1000 (by show 3 ≤ 1000; decide), (by omega : (0 : Int) ≤ cell / 9 % 4), Int.lt_trans (by omega : cell / 9 % 4 < 4) (by decide), ?_⟩
      have sC := Same.over (o := .lst ((il [3, 0, 9]).take (cell / 9 % 4).toNat ++ [.int y] ++ (il [3, 0, 9]).drop (cell / 9 % 4).toNat)) (Same.trans s2 s3) y2
      have hm2 := mem_ins [3, 0, 9] (cell / 9 % 4) y
      refine ⟨_, rfl, ?_⟩
      refine ⟨Nat.zero_le _, fun x4 y4 => ?_⟩
      have s4 := same_upd (o := .lst []) y4
      refine ⟨_, rfl, ?_⟩
      refine ⟨le1 _, fun x5 y5 => ?_⟩
      have s5 := same_upd (o := .lst [.int 3]) y5
      refine ⟨le3 _ _ _, fun x6 y6 => ?_⟩
      have s6 := same_upd (o := .lst [.ref x4, .ref x2, .ref x5]) y6
      refine ⟨_, rfl, _, _, rfl, rfl, ⟨by decide, by decide⟩, _, _, rfl, rfl, (by decide : (0 : Int) < 3), ?_⟩
      rcases h1083 with d | d | d
      · refine ⟨x6, _, _, _, rfl, congrArg V.int d, sql upd_same, atI_nat (j := 0) rfl, ?_⟩
        refine ⟨_, rfl, _, rfl, _, _, rfl, rfl, ⟨by decide, by decide⟩, _, _, rfl, rfl, (by decide : (0 : Int) < 2), ?_⟩
        exact ⟨a, x4, x2, 13, 2, _, 10, [], insI [3, 0, 9] (cell / 9 % 4) y, rfl, hF.same (Same.trans s1 (Same.trans sC (Same.trans s4 (Same.trans s5 s6)))), sql ((Same.trans s5 s6) _ _ upd_same), sql ((Same.trans s4 (Same.trans s5 s6)) _ _ (upd_same.trans (congrArg (fun z => some (HO.lst z)) (il_ins [3, 0, 9] (cell / 9 % 4) y)))), h3242, .inr (.inr ⟨rfl, rfl⟩), fun _ => e.on (Same.trans s1 (Same.trans sC (Same.trans s4 (Same.trans s5 s6)))), fun _ h2 => absurd (h2 y hm2) (by omega)⟩
      · refine ⟨x6, _, _, _, rfl, congrArg V.int d, sql upd_same, atI_nat (j := 1) rfl, ?_⟩
        refine ⟨_, rfl, _, rfl, _, _, rfl, rfl, ⟨by decide, by decide⟩, _, _, rfl, rfl, (by decide : (0 : Int) < 2), ?_⟩
        exact ⟨a, x2, x2, 13, 2, _, 10, insI [3, 0, 9] (cell / 9 % 4) y, insI [3, 0, 9] (cell / 9 % 4) y, rfl, hF.same (Same.trans s1 (Same.trans sC (Same.trans s4 (Same.trans s5 s6)))), sql ((Same.trans s4 (Same.trans s5 s6)) _ _ (upd_same.trans (congrArg (fun z => some (HO.lst z)) (il_ins [3, 0, 9] (cell / 9 % 4) y)))), sql ((Same.trans s4 (Same.trans s5 s6)) _ _ (upd_same.trans (congrArg (fun z => some (HO.lst z)) (il_ins [3, 0, 9] (cell / 9 % 4) y)))), h3242, .inr (.inr ⟨rfl, rfl⟩), fun _ => e.on (Same.trans s1 (Same.trans sC (Same.trans s4 (Same.trans s5 s6)))), fun _ h2 => absurd (h2 y hm2) (by omega)⟩
      · refine ⟨x6, _, _, _, rfl, congrArg V.int d, sql upd_same, atI_nat (j := 2) rfl, ?_⟩
        refine ⟨_, rfl, _, rfl, _, _, rfl, rfl, ⟨by decide, by decide⟩, _, _, rfl, rfl, (by decide : (0 : Int) < 2), ?_⟩
        exact ⟨a, x5, x2, 13, 2, _, 10, [3], insI [3, 0, 9] (cell / 9 % 4) y, rfl, hF.same (Same.trans s1 (Same.trans sC (Same.trans s4 (Same.trans s5 s6)))), sql (s6 _ _ upd_same), sql ((Same.trans s4 (Same.trans s5 s6)) _ _ (upd_same.trans (congrArg (fun z => some (HO.lst z)) (il_ins [3, 0, 9] (cell / 9 % 4) y)))), h3242, .inr (.inr ⟨rfl, rfl⟩), fun _ => e.on (Same.trans s1 (Same.trans sC (Same.trans s4 (Same.trans s5 s6)))), fun _ h2 => absurd (h2 y hm2) (by omega)⟩
end
end Spw

namespace Spw
open PySem PySem.Spec PyProof.Rows L2 Spm
section
variable {P : Program} {w : World} {K : PySem.W.Frag} {mg : Str → Option Value} {base : Heap}
/-- _law_which: of which class the caught refusal is -/
def sp_l_which (K : PySem.W.Frag) (C : Addr) (D : Exs) : Addr → Value → Option Addr → Sp := fun a cls d vs H Q _ => ∃ (X : Addr) (b1 b2 b3 b4 : Bool), vs = [.ref a] ∧ cls = .ref X ∧ d = none ∧ ExcC K X ∧
  PySem.W.kitOne K (.ref X) (.ref D.P) = some b1 ∧ PySem.W.kitOne K (.ref X) (.ref D.R) = some b2 ∧ PySem.W.kitOne K (.ref X) (.ref D.W) = some b3 ∧ PySem.W.kitOne K (.ref X) (.ref D.Z) = some b4 ∧ PySem.W.kitOne K (.ref X) (.type "ValueError") = some true ∧
  ∀ H' l, Same H H' → H' l = some (.lst [.bl b1, .bl b2, .bl b3, .bl b4, .bl true]) → Q (.ref l) H'
theorem ok_l_which (T : Env K mg) : FnW P w K mg base 1 T.f_l_which T.d_l_which ["e"] (sp_l_which K T.C T.xs) := by
  refine okW T.F_l_which sc_l_which (fun a cls d vs H Q E h => ?_) (fun cdv A outer s H vs Q E a oe cls d hz hf hr h => ?_)
  · obtain ⟨X, b1, b2, b3, b4, rfl, _⟩ := h
    rfl
  · obtain ⟨X, b1, b2, b3, b4, rfl, rfl, rfl, hX, k1, k2, k3, k4, k5, q⟩ := h
    refine ⟨_, (pss_cons (ps_set (i := 1) sc_l_which.nd rfl (Or.inl rfl) (pe_lst (pa_cons (pe_callB (call_isW (K := K) rfl List.mem_cons_self hz hf) (by rfl) T.n_isinstance (by decide +kernel) (pa_cons (pv 0) (pa_cons (pe_glob (v := .ref T.x_NoPrime) rfl T.X_NoPrime.g rfl) pa_nil))) (pa_cons (pe_callB (call_isW (K := K) rfl List.mem_cons_self hz hf) (by rfl) T.n_isinstance (by decide +kernel) (pa_cons (pv 0) (pa_cons (pe_glob (v := .ref T.x_NoRest) rfl T.X_NoRest.g rfl) pa_nil))) (pa_cons (pe_callB (call_isW (K := K) rfl List.mem_cons_self hz hf) (by rfl) T.n_isinstance (by decide +kernel) (pa_cons (pv 0) (pa_cons (pe_glob (v := .ref T.x_NoRow) rfl T.X_NoRow.g rfl) pa_nil))) pa_nil)))))
      (pss_one (ps_ret (pe_op op_cat (pv 1) (pe_lst (pa_cons (pe_callB (call_isW (K := K) rfl List.mem_cons_self hz hf) (by rfl) T.n_isinstance (by decide +kernel) (pa_cons (pv 0) (pa_cons (pe_glob (v := .ref T.x_NoRoot) rfl T.X_NoRoot.g rfl) pa_nil))) (pa_cons (pe_callB (call_isW (K := K) rfl List.mem_cons_self hz hf) (by rfl) T.n_isinstance (by decide +kernel) (pa_cons (pv 0) (pa_cons (pe_bltn (v := .ty "ValueError") (by rfl) T.n_ValueError (by decide +kernel) rfl) pa_nil))) pa_nil))))))), ?_⟩
    refine ⟨_, rfl, X, _, _, _, rfl, rfl, hX, rfl, fun u r => r, k1, ?_⟩
    refine ⟨_, rfl, X, _, _, _, rfl, rfl, hX, rfl, fun u r => r, k2, ?_⟩
    refine ⟨_, rfl, X, _, _, _, rfl, rfl, hX, rfl, fun u r => r, k3, ?_⟩
    refine ⟨le3 _ _ _, fun l nl => ?_⟩
    refine ⟨_, rfl, ?_⟩
    refine ⟨_, rfl, X, _, _, _, rfl, rfl, hX, rfl, fun u r => r, k4, ?_⟩
    refine ⟨_, rfl, X, _, _, _, rfl, rfl, hX, rfl, fun u r => r, k5, ?_⟩
    refine ⟨le2 _ _, fun m nm => ?_⟩
    have s2 : Same H (upd (upd H l (.lst [.bl b1, .bl b2, .bl b3])) m (.lst [.bl b4, .bl true])) := (same_upd nl).trans (same_upd nm)
    refine ⟨l, m, _, _, rfl, rfl, (same_upd nm) _ _ upd_same, upd_same, (by show 5 ≤ sizeLine; exact line_le (by decide)), fun o no => ?_⟩
    exact q _ _ (s2.trans (same_upd no)) upd_same
end
end Spw

namespace Spw
open PySem PySem.Spec PyProof.Rows L2 Spm
section
variable {P : Program} {w : World} {K : PySem.W.Frag} {mg : Str → Option Value} {base : Heap}
def sp_law (K : PySem.W.Frag) (C : Addr) : Sp := fun vs H Q _ => ∃ (a : Addr) (ns : List Int), vs = [.ref a] ∧ SqL K H a (il ns) ∧ ns.length ≤ 63 ∧ ∀ H', Q (.bl true) H'
theorem ok_law (T : Env K mg) : FnOk P w K mg base CX0 7 T.f_law T.d_law ["script"] (sp_law K T.C) := by
  have kP : Kd K T.xs 0 T.x_NoPrime := ⟨T.X_NoPrime.c, T.X_NoPrime.e, T.K_NoPrime_NoPrime, T.K_NoPrime_NoRest, T.K_NoPrime_NoRow, T.K_NoPrime_NoRoot, T.V_NoPrime⟩
  have kR : Kd K T.xs 1 T.x_NoRest := ⟨T.X_NoRest.c, T.X_NoRest.e, T.K_NoRest_NoPrime, T.K_NoRest_NoRest, T.K_NoRest_NoRow, T.K_NoRest_NoRoot, T.V_NoRest⟩
  have kW : Kd K T.xs 2 T.x_NoRow := ⟨T.X_NoRow.c, T.X_NoRow.e, T.K_NoRow_NoPrime, T.K_NoRow_NoRest, T.K_NoRow_NoRow, T.K_NoRow_NoRoot, T.V_NoRow⟩
  have kZ : Kd K T.xs 3 T.x_NoRoot := ⟨T.X_NoRoot.c, T.X_NoRoot.e, T.K_NoRoot_NoPrime, T.K_NoRoot_NoRest, T.K_NoRoot_NoRow, T.K_NoRoot_NoRoot, T.V_NoRoot⟩
  refine T.F_law.ok sc_law (fun vs H Q E h => ?_) (fun cdv A outer s H vs Q E hr h => ?_)
  · obtain ⟨a, ns, rfl, _⟩ := h
    rfl
  · obtain ⟨a, ns, rfl, hS, hlen, q⟩ := h
    refine ⟨_, (pss_cons (ps_set (i := 1) sc_law.nd rfl (Or.inl rfl) (pe_op op_mod (pe_call (ok_l_cell_at T) (hr.mono (by decide)) (by rfl) T.g_l_cell_at T.F_l_cell_at.kp T.b_l_cell_at .nil pass0 (pa_cons (pv 0) (pa_cons pe_int pa_nil))) pe_int))
      (pss_cons (ps_set (i := 2) sc_law.nd rfl (Or.inl rfl) (pe_op op_mod (pe_call (ok_l_cell_at T) (hr.mono (by decide)) (by rfl) T.g_l_cell_at T.F_l_cell_at.kp T.b_l_cell_at .nil pass0 (pa_cons (pv 0) (pa_cons pe_int pa_nil))) (pe_op op_pow pe_int pe_int)))
      (pss_cons (ps_set (i := 3) sc_law.nd rfl (Or.inl rfl) (pe_ix ix_list (pe_lst (pa_cons (pe_op op_sub (pe_un un_neg pe_int) (pv 2)) (pa_cons pe_int (pa_cons (pe_op op_add pe_int (pv 2)) (pa_cons (pe_un un_neg pe_int) pa_nil))))) (pe_op op_mod (pe_call (ok_l_cell_at T) (hr.mono (by decide)) (by rfl) T.g_l_cell_at T.F_l_cell_at.kp T.b_l_cell_at .nil pass0 (pa_cons (pv 0) (pa_cons pe_int pa_nil))) pe_int) (fun _ _ => rfl)))
      (pss_cons (ps_set (i := 4) sc_law.nd rfl (Or.inl rfl) (pe_call (ok_l_cell_at T) (hr.mono (by decide)) (by rfl) T.g_l_cell_at T.F_l_cell_at.kp T.b_l_cell_at .nil pass0 (pa_cons (pv 0) (pa_cons pe_int pa_nil))))
      (pss_cons (ps_set (i := 5) sc_law.nd rfl (Or.inl rfl) (pe_make T.M_C (ok_m_init T) (hr.mono (by decide)) (by rfl) T.g_C T.b_m_init .nil passL (pa_cons pe_int pa_nil)))
      (pss_cons (ps_set (i := 6) sc_law.nd rfl (Or.inl rfl) (pe_lst pa_nil))
      (pss_cons (ps_try_as (i := 7) (Wout := fun _ _ _ _ => False) rfl rfl sc_law.nd rfl rfl ⟨rfl, by decide, Or.inl T.X_SpinError.g⟩ takes0 (fun W pn xe tk po => (pss_one (ps_if (pt_cmpR op_eq (pv 1) pe_int (nomark _)) (pss_one (ps_expr (pe_makeS T.M_C (ok_m_init T) (hr.mono (by decide)) (by rfl) T.g_C T.b_m_init (fun σ => passAt tk σ) (pa_cons (pe_ix (ix_listK (K := K) rfl) (pe_lst (pa_cons pe_int (pa_cons pe_int (pa_cons (pe_un un_neg pe_int) (pa_cons pe_int (pa_cons pe_int (pa_cons pe_int pa_nil))))))) (pe_op op_mod (pv 4) pe_int) (fun _ _ => rfl)) pa_nil)))) (pss_one (ps_if (pt_cmpR op_eq (pv 1) pe_int (nomark _)) (pss_one (ps_expr (pe_callS (ok_l_one_rest T) (hr.mono (by decide)) (by rfl) T.g_l_one_rest T.F_l_one_rest.kp T.b_l_one_rest (fun σ => passAt tk σ) (pa_cons (pv 5) (pa_cons (pv 4) (pa_cons (pv 3) pa_nil)))))) (pss_one (ps_if (pt_cmpR op_eq (pv 1) pe_int (nomark _)) (pss_one (ps_expr (pe_callS (ok_l_no_row T) (hr.mono (by decide)) (by rfl) T.g_l_no_row T.F_l_no_row.kp T.b_l_no_row (fun σ => passAt tk σ) (pa_cons (pv 5) (pa_cons (pv 4) pa_nil))))) (pss_one (ps_if (pt_cmpR op_eq (pv 1) pe_int (nomark _)) (pss_one (ps_expr (pe_callS (ok_l_no_root T) (hr.mono (by decide)) (by rfl) T.g_l_no_root T.F_l_no_root.kp T.b_l_no_root (fun σ => passAt tk σ) (pa_cons (pv 5) (pa_cons (pv 4) pa_nil))))) (pss_one (ps_expr (pe_callS (ok_l_row_rest T) (hr.mono (by decide)) (by rfl) T.g_l_row_rest T.F_l_row_rest.kp T.b_l_row_rest (fun σ => passAt tk σ) (pa_cons (pv 5) (pa_cons (pv 4) (pa_cons (pv 3) pa_nil))))))))))))))) (fun a oe cls d pn hz hf => (pss_one (ps_set (i := 6) sc_law.nd rfl (Or.inl rfl) (pe_callW (ok_l_which T) (roomW hr) List.mem_cons_self hz hf (by rfl) T.g_l_which T.F_l_which.kp T.b_l_which (pa_cons (pv 7) pa_nil))))))
      (pss_cons (ps_set (i := 8) sc_law.nd rfl (Or.inr rfl) (pe_ix ix_list (pe_lst (pa_cons pe_int (pa_cons pe_int (pa_cons pe_int (pa_cons pe_int (pa_cons pe_int pa_nil)))))) (pv 1) (fun _ _ => rfl)))
      (pss_one (ps_ret (pe_cmpR (op_eqD hr.units) (pv 6) (pe_lc (own := [("k", 9)]) (g := gName 9) (tt := tYes) rfl sc_law.nd (pi_range1 (by rfl) T.n_range (pa_cons pe_int pa_nil)) (blkOk_by (N := N_law) (sc := defScope s_law) (by decide +kernel)) (fun _ _ _ _ _ => pg_name (i := 9) sc_law.nd rfl (Or.inl rfl)) (fun _ _ _ _ _ => by exact pts_nil) (fun _ _ _ _ _ => by exact (pe_or (pe_cmpR op_eq (pv 9) (pv 8) (nomark _)) (pe_one (pe_cmpR op_eq (pv 9) pe_int (nomark _)))))) (nomark _)))))))))))), ?_⟩
    refine ⟨_, rfl, a, ns, 0, rfl, hS, _, _, rfl, rfl, (by decide : (0 : Int) < 5), ?_⟩
    refine ⟨_, rfl, a, ns, 2, rfl, hS, _, _, rfl, rfl, ⟨by decide, by decide, by decide⟩, _, _, rfl, rfl, (by decide : (0 : Int) < 10 ^ 59), ?_⟩
    refine ⟨_, rfl, _, rfl, _, _, rfl, rfl, _, rfl, _, _, rfl, rfl, _, rfl, line_le (by show 4 ≤ 1000; decide), fun l nl => ?_⟩
    obtain ⟨bad, hb, hat⟩ := menuB (far := at0 ns 2 % 10 ^ 59) (c := at0 ns 3 % 4) (Int.emod_nonneg _ (by decide)) (by omega) (by omega)
    have s1 := same_upd (o := .lst [.int (-1 - at0 ns 2 % 10 ^ 59), .int 13, .int (13 + at0 ns 2 % 10 ^ 59), .int (-1)]) nl
    refine ⟨_, rfl, a, ns, 3, rfl, s1.seq hS, _, _, rfl, rfl, (by decide : (0 : Int) < 4), ?_⟩
    refine ⟨l, _, _, _, rfl, rfl, sql upd_same, hat, ?_⟩
    refine ⟨_, rfl, a, ns, 1, rfl, s1.seq hS, ?_⟩
    generalize at0 ns 1 = cell
    refine fun x dx nx ndx nex => ⟨x, dx, 13, rfl, upd_same, fun hp H2 hF kk => ⟨rfl, ?_⟩, fun z => absurd prime13 z⟩
    refine ⟨Nat.zero_le _, fun t0 nt0 => ?_⟩
    have s2 := same_upd (o := .lst []) nt0
    have hF2 : FieldAt T.C (upd H2 t0 (.lst [])) x ((13 : Nat) : Int) := hF.same s2
    refine' shareK (PreK K T.xs (upd H2 t0 (.lst [])) (at0 ns 0 % 5)) (fun main => ?way) ?on
    case way =>
      have hw : at0 ns 0 % 5 = 0 ∨ at0 ns 0 % 5 = 1 ∨ at0 ns 0 % 5 = 2 ∨ at0 ns 0 % 5 = 3 ∨ at0 ns 0 % 5 = 4 := by omega
      rcases hw with c | c | c | c | c
      · refine ⟨_, rfl, rfl, _, rfl, stepT c ?_⟩
        obtain ⟨n, hn, hat2⟩ := menuP (c := cell % 6) (by omega) (by omega)
        refine ⟨_, rfl, line_le (by show 6 ≤ 1000; decide), fun l2 n2 => ?_⟩
        have s3 := same_upd (o := .lst [.int 0, .int 1, .int (-7), .int 4, .int 998, .int 1009]) n2
        refine ⟨_, rfl, _, _, rfl, rfl, (by decide : (0 : Int) < 6), l2, _, _, _, rfl, rfl, sql upd_same, hat2, ?_⟩
        refine fun x2 dx2 nx2 ndx2 nex2 => ⟨x2, dx2, n, rfl, upd_same, fun hp => absurd hp hn, fun _ => ?_⟩
        have s4 := s3.trans (Same.made (C := T.C) nx2 ndx2 fun _ _ e _ => e)
        exact (fun h : ∀ (D : Addr) (H3 : Hp), PreK K T.xs (upd H2 t0 (.lst [])) (at0 ns 0 % 5) D H3 → wAs _ _ 7 _ _ _ (.ref D) none [some (.ref a), some (.int (at0 ns 0 % 5)), _, some (.int bad), some (.int cell), some (.ref x), some (.ref t0), none, none, none] H3 => h T.x_NoPrime _ ⟨0, kP, s4, .inl rfl, by rw [c]; rfl⟩) (fun D H3 h => main D H3 h)
      · refine ⟨_, rfl, rfl, _, rfl, stepF (by omega) ?_⟩
        refine ⟨_, rfl, rfl, _, rfl, stepT c ?_⟩
        refine ⟨_, rfl, _, rfl, _, rfl, x, cell, bad, rfl, hF2, hb, fun H3 s3 => ?_⟩
        exact (fun h : ∀ (D : Addr) (H3 : Hp), PreK K T.xs (upd H2 t0 (.lst [])) (at0 ns 0 % 5) D H3 → wAs _ _ 7 _ _ _ (.ref D) none [some (.ref a), some (.int (at0 ns 0 % 5)), _, some (.int bad), some (.int cell), some (.ref x), some (.ref t0), none, none, none] H3 => h T.x_NoRest H3 ⟨1, kR, s3, .inr (.inl rfl), by rw [c]; rfl⟩) (fun D H3 h => main D H3 h)
      · refine ⟨_, rfl, rfl, _, rfl, stepF (by omega) ?_⟩
        refine ⟨_, rfl, rfl, _, rfl, stepF (by omega) ?_⟩
        refine ⟨_, rfl, rfl, _, rfl, stepT c ?_⟩
        refine ⟨_, rfl, _, rfl, x, cell, rfl, hF2, fun H3 s3 => ?_⟩
        exact (fun h : ∀ (D : Addr) (H3 : Hp), PreK K T.xs (upd H2 t0 (.lst [])) (at0 ns 0 % 5) D H3 → wAs _ _ 7 _ _ _ (.ref D) none [some (.ref a), some (.int (at0 ns 0 % 5)), _, some (.int bad), some (.int cell), some (.ref x), some (.ref t0), none, none, none] H3 => h T.x_NoRow H3 ⟨2, kW, s3, .inr (.inr (.inl rfl)), by rw [c]; rfl⟩) (fun D H3 h => main D H3 h)
      · refine ⟨_, rfl, rfl, _, rfl, stepF (by omega) ?_⟩
        refine ⟨_, rfl, rfl, _, rfl, stepF (by omega) ?_⟩
        refine ⟨_, rfl, rfl, _, rfl, stepF (by omega) ?_⟩
        refine ⟨_, rfl, rfl, _, rfl, stepT c ?_⟩
        refine ⟨_, rfl, _, rfl, x, cell, rfl, hF2, fun H3 s3 => ?_⟩
        exact (fun h : ∀ (D : Addr) (H3 : Hp), PreK K T.xs (upd H2 t0 (.lst [])) (at0 ns 0 % 5) D H3 → wAs _ _ 7 _ _ _ (.ref D) none [some (.ref a), some (.int (at0 ns 0 % 5)), _, some (.int bad), some (.int cell), some (.ref x), some (.ref t0), none, none, none] H3 => h T.x_NoRoot H3 ⟨3, kZ, s3, .inr (.inr (.inr rfl)), by rw [c]; rfl⟩) (fun D H3 h => main D H3 h)
      · refine ⟨_, rfl, rfl, _, rfl, stepF (by omega) ?_⟩
        refine ⟨_, rfl, rfl, _, rfl, stepF (by omega) ?_⟩
        refine ⟨_, rfl, rfl, _, rfl, stepF (by omega) ?_⟩
        refine ⟨_, rfl, rfl, _, rfl, stepF (by omega) ?_⟩
        refine ⟨_, rfl, _, rfl, _, rfl, x, cell, bad, rfl, hF2, hb, fun H3 s3 => ?_⟩
        exact (fun h : ∀ (D : Addr) (H3 : Hp), PreK K T.xs (upd H2 t0 (.lst [])) (at0 ns 0 % 5) D H3 → wAs _ _ 7 _ _ _ (.ref D) none [some (.ref a), some (.int (at0 ns 0 % 5)), _, some (.int bad), some (.int cell), some (.ref x), some (.ref t0), none, none, none] H3 => h T.x_NoRest H3 ⟨1, kR, s3, .inr (.inl rfl), by rw [c]; rfl⟩) (fun D H3 h => main D H3 h)
    case on =>
      rintro D H3 ⟨k, ⟨k0, k1, k2, k3, k4, k5, k6⟩, s3, hk, hat3⟩
      refine ⟨true, k1, fun _ ex hex => ?_, fun z => Bool.noConfusion z⟩
      refine ⟨_, rfl, D, _, _, _, _, rfl, rfl, rfl, k0, k2, k3, k4, k5, k6, fun H4 t4 s4 h4 => ?_⟩
      refine ⟨line_le (by show 5 ≤ 1000; decide), fun m nm => ?_⟩
      have s5 := same_upd (o := .lst [.int 0, .int 1, .int 2, .int 3, .int 1]) nm
      refine ⟨_, rfl, m, _, _, _, rfl, rfl, sql upd_same, hat3, ?_⟩
      refine ⟨_, rfl, _, rfl, by decide, by decide, fun Dd nD => ?_⟩
      refine lc_range (lo := 0) (n := 5) (fun i H' => Same (upd H4 m (.lst [.int 0, .int 1, .int 2, .int 3, .int 1])) H' ∧ H' Dd = some (.lst (due k i))) ⟨same_upd nD, upd_same⟩ ?_ ?_
      · rintro i H' hi ⟨s6, hD⟩
        refine ⟨rfl, lcYes ?_⟩
        refine ⟨_, rfl, _, rfl, rfl, _, rfl, ?_⟩
        by_cases c1 : V.int ((0 : Int) + (i : Int)) = V.int k
        · refine iteD c1 ⟨_, hD, small1000 (by rw [due_len]; omega), s6.over nD, ?_⟩
          rw [upd_same, due_next, decide_eq_true c1]
          rfl
        · refine iteDF c1 ⟨_, rfl, rfl, _, hD, small1000 (by rw [due_len]; omega), s6.over nD, ?_⟩
          rw [upd_same, due_next, decide_eq_false c1]
          rfl
      · rintro H' ⟨s6, hD⟩
        rw [due_is hk] at hD
        refine ⟨_, _, dp_due (s6 _ _ (s5 _ _ h4)), dp_due hD, (dueD_ok hk).1, (dueD_ok hk).1, ?_⟩
        rw [(dueD_ok hk).2]
        exact q _
end
end Spw

namespace Spw
open PySem PySem.Spec PyProof.Rows L2 Spm
theorem all_mk {l : PySem.W.OpenLaw} {w : World} {K : PySem.W.Frag} {h : Heap} {mg : Str → Option Value} {fa C f_l_cell_at f_l_order f_is_prime f_m_init f_m_ask f_ask_row f_m_order f_ask_all f_turned f_turned_back f_l_no_root f_ask_figures f_long_product f_ask_both f_plain_product f_ring_product f_l_two f_row_through f_worth_at f_l_no_row f_m_inverse f_m_plus f_m_power f_m_times f_l_one_rest f_l_row_rest f_l_which f_law x_NoPrime x_NoRest x_NoRoot x_NoRow x_SpinError P_PRIMES : Addr} (X : K.In h) (G : h.Ns mainGlobals mg) (hfa : mg "law" = some (.ref fa))
    {od_l_cell_at an_l_cell_at : Option Addr} {sl_l_cell_at : Array (Option Value)} {oc_l_cell_at kV_l_cell_at dc_l_cell_at pm_l_cell_at cd_l_cell_at ct_l_cell_at : Value}
    {od_l_order an_l_order : Option Addr} {sl_l_order : Array (Option Value)} {oc_l_order kV_l_order dc_l_order pm_l_order cd_l_order ct_l_order : Value}
    {od_is_prime an_is_prime : Option Addr} {sl_is_prime : Array (Option Value)} {oc_is_prime kV_is_prime dc_is_prime pm_is_prime cd_is_prime ct_is_prime : Value}
    {od_m_init an_m_init : Option Addr} {sl_m_init : Array (Option Value)} {oc_m_init kV_m_init dc_m_init pm_m_init cd_m_init ct_m_init : Value}
    {od_m_ask an_m_ask : Option Addr} {sl_m_ask : Array (Option Value)} {oc_m_ask kV_m_ask dc_m_ask pm_m_ask cd_m_ask ct_m_ask : Value}
    {od_ask_row an_ask_row : Option Addr} {sl_ask_row : Array (Option Value)} {oc_ask_row kV_ask_row dc_ask_row pm_ask_row cd_ask_row ct_ask_row : Value}
    {od_m_order an_m_order : Option Addr} {sl_m_order : Array (Option Value)} {oc_m_order kV_m_order dc_m_order pm_m_order cd_m_order ct_m_order : Value}
    {od_ask_all an_ask_all : Option Addr} {sl_ask_all : Array (Option Value)} {oc_ask_all kV_ask_all dc_ask_all pm_ask_all cd_ask_all ct_ask_all : Value}
    {od_turned an_turned : Option Addr} {sl_turned : Array (Option Value)} {oc_turned kV_turned dc_turned pm_turned cd_turned ct_turned : Value}
    {od_turned_back an_turned_back : Option Addr} {sl_turned_back : Array (Option Value)} {oc_turned_back kV_turned_back dc_turned_back pm_turned_back cd_turned_back ct_turned_back : Value}
    {od_l_no_root an_l_no_root : Option Addr} {sl_l_no_root : Array (Option Value)} {oc_l_no_root kV_l_no_root dc_l_no_root pm_l_no_root cd_l_no_root ct_l_no_root : Value}
    {od_ask_figures an_ask_figures : Option Addr} {sl_ask_figures : Array (Option Value)} {oc_ask_figures kV_ask_figures dc_ask_figures pm_ask_figures cd_ask_figures ct_ask_figures : Value}
    {od_long_product an_long_product : Option Addr} {sl_long_product : Array (Option Value)} {oc_long_product kV_long_product dc_long_product pm_long_product cd_long_product ct_long_product : Value}
    {od_ask_both an_ask_both : Option Addr} {sl_ask_both : Array (Option Value)} {oc_ask_both kV_ask_both dc_ask_both pm_ask_both cd_ask_both ct_ask_both : Value}
    {od_plain_product an_plain_product : Option Addr} {sl_plain_product : Array (Option Value)} {oc_plain_product kV_plain_product dc_plain_product pm_plain_product cd_plain_product ct_plain_product : Value}
    {od_ring_product an_ring_product : Option Addr} {sl_ring_product : Array (Option Value)} {oc_ring_product kV_ring_product dc_ring_product pm_ring_product cd_ring_product ct_ring_product : Value}
    {od_l_two an_l_two : Option Addr} {sl_l_two : Array (Option Value)} {oc_l_two kV_l_two dc_l_two pm_l_two cd_l_two ct_l_two : Value}
    {od_row_through an_row_through : Option Addr} {sl_row_through : Array (Option Value)} {oc_row_through kV_row_through dc_row_through pm_row_through cd_row_through ct_row_through : Value}
    {od_worth_at an_worth_at : Option Addr} {sl_worth_at : Array (Option Value)} {oc_worth_at kV_worth_at dc_worth_at pm_worth_at cd_worth_at ct_worth_at : Value}
    {od_l_no_row an_l_no_row : Option Addr} {sl_l_no_row : Array (Option Value)} {oc_l_no_row kV_l_no_row dc_l_no_row pm_l_no_row cd_l_no_row ct_l_no_row : Value}
    {od_m_inverse an_m_inverse : Option Addr} {sl_m_inverse : Array (Option Value)} {oc_m_inverse kV_m_inverse dc_m_inverse pm_m_inverse cd_m_inverse ct_m_inverse : Value}
    {od_m_plus an_m_plus : Option Addr} {sl_m_plus : Array (Option Value)} {oc_m_plus kV_m_plus dc_m_plus pm_m_plus cd_m_plus ct_m_plus : Value}
    {od_m_power an_m_power : Option Addr} {sl_m_power : Array (Option Value)} {oc_m_power kV_m_power dc_m_power pm_m_power cd_m_power ct_m_power : Value}
    {od_m_times an_m_times : Option Addr} {sl_m_times : Array (Option Value)} {oc_m_times kV_m_times dc_m_times pm_m_times cd_m_times ct_m_times : Value}
    {od_l_one_rest an_l_one_rest : Option Addr} {sl_l_one_rest : Array (Option Value)} {oc_l_one_rest kV_l_one_rest dc_l_one_rest pm_l_one_rest cd_l_one_rest ct_l_one_rest : Value}
    {od_l_row_rest an_l_row_rest : Option Addr} {sl_l_row_rest : Array (Option Value)} {oc_l_row_rest kV_l_row_rest dc_l_row_rest pm_l_row_rest cd_l_row_rest ct_l_row_rest : Value}
    {od_l_which an_l_which : Option Addr} {sl_l_which : Array (Option Value)} {oc_l_which kV_l_which dc_l_which pm_l_which cd_l_which ct_l_which : Value}
    {od_law an_law : Option Addr} {sl_law : Array (Option Value)} {oc_law kV_law dc_law pm_law cd_law ct_law : Value}
    {tk_GREATEST : Tok}
    {tk_MOST_POINTS : Tok}
    {t0_PRIMES t1_PRIMES t2_PRIMES : Tok} {nn_PRIMES : Nat} {sl_PRIMES : Array (Option Value)}
    (aC : PySem.W.nsIn K mainGlobals "Field" = some (some (.ref C)))
    (a_l_cell_at : PySem.W.nsIn K mainGlobals "_law_cell_at" = some (some (.ref f_l_cell_at)))
    (l_l_cell_at : K.lookup f_l_cell_at = some ⟨oc_l_cell_at, od_l_cell_at, .func (PySem.W.fnOf "_law_cell_at" "_law_cell_at" (defArgs s_l_cell_at) (defBody s_l_cell_at) (defScope s_l_cell_at) .none kV_l_cell_at dc_l_cell_at pm_l_cell_at an_l_cell_at cd_l_cell_at ct_l_cell_at), sl_l_cell_at⟩)
    (c_l_cell_at : PySem.W.codeIn K cd_l_cell_at "_law_cell_at" = true)
    (k_l_cell_at : PySem.W.keepIn K (.ref f_l_cell_at) = true)
    (a_l_order : PySem.W.nsIn K mainGlobals "_law_order" = some (some (.ref f_l_order)))
    (l_l_order : K.lookup f_l_order = some ⟨oc_l_order, od_l_order, .func (PySem.W.fnOf "_law_order" "_law_order" (defArgs s_l_order) (defBody s_l_order) (defScope s_l_order) .none kV_l_order dc_l_order pm_l_order an_l_order cd_l_order ct_l_order), sl_l_order⟩)
    (c_l_order : PySem.W.codeIn K cd_l_order "_law_order" = true)
    (k_l_order : PySem.W.keepIn K (.ref f_l_order) = true)
    (a_is_prime : PySem.W.nsIn K mainGlobals "is_prime" = some (some (.ref f_is_prime)))
    (l_is_prime : K.lookup f_is_prime = some ⟨oc_is_prime, od_is_prime, .func (PySem.W.fnOf "is_prime" "is_prime" (defArgs s_is_prime) (defBody s_is_prime) (defScope s_is_prime) .none kV_is_prime dc_is_prime pm_is_prime an_is_prime cd_is_prime ct_is_prime), sl_is_prime⟩)
    (c_is_prime : PySem.W.codeIn K cd_is_prime "is_prime" = true)
    (k_is_prime : PySem.W.keepIn K (.ref f_is_prime) = true)
    (a_m_init : PySem.W.findIn K (.ref C) "__init__" = some (some (.ref f_m_init)))
    (i_m_init : PySem.W.isFn K (.ref f_m_init) = true)
    (l_m_init : K.lookup f_m_init = some ⟨oc_m_init, od_m_init, .func (PySem.W.fnOf "__init__" "Field.__init__" (defArgs s_m_init) (defBody s_m_init) (defScope s_m_init) .none kV_m_init dc_m_init pm_m_init an_m_init cd_m_init ct_m_init), sl_m_init⟩)
    (c_m_init : PySem.W.codeIn K cd_m_init "Field.__init__" = true)
    (k_m_init : PySem.W.keepIn K (.ref f_m_init) = true)
    (a_m_ask : PySem.W.findIn K (.ref C) "ask" = some (some (.ref f_m_ask)))
    (i_m_ask : PySem.W.isFn K (.ref f_m_ask) = true)
    (l_m_ask : K.lookup f_m_ask = some ⟨oc_m_ask, od_m_ask, .func (PySem.W.fnOf "ask" "Field.ask" (defArgs s_m_ask) (defBody s_m_ask) (defScope s_m_ask) .none kV_m_ask dc_m_ask pm_m_ask an_m_ask cd_m_ask ct_m_ask), sl_m_ask⟩)
    (c_m_ask : PySem.W.codeIn K cd_m_ask "Field.ask" = true)
    (k_m_ask : PySem.W.keepIn K (.ref f_m_ask) = true)
    (a_ask_row : PySem.W.nsIn K mainGlobals "ask_row" = some (some (.ref f_ask_row)))
    (l_ask_row : K.lookup f_ask_row = some ⟨oc_ask_row, od_ask_row, .func (PySem.W.fnOf "ask_row" "ask_row" (defArgs s_ask_row) (defBody s_ask_row) (defScope s_ask_row) .none kV_ask_row dc_ask_row pm_ask_row an_ask_row cd_ask_row ct_ask_row), sl_ask_row⟩)
    (c_ask_row : PySem.W.codeIn K cd_ask_row "ask_row" = true)
    (k_ask_row : PySem.W.keepIn K (.ref f_ask_row) = true)
    (a_m_order : PySem.W.findIn K (.ref C) "order" = some (some (.ref f_m_order)))
    (i_m_order : PySem.W.isFn K (.ref f_m_order) = true)
    (l_m_order : K.lookup f_m_order = some ⟨oc_m_order, od_m_order, .func (PySem.W.fnOf "order" "Field.order" (defArgs s_m_order) (defBody s_m_order) (defScope s_m_order) .none kV_m_order dc_m_order pm_m_order an_m_order cd_m_order ct_m_order), sl_m_order⟩)
    (c_m_order : PySem.W.codeIn K cd_m_order "Field.order" = true)
    (k_m_order : PySem.W.keepIn K (.ref f_m_order) = true)
    (a_ask_all : PySem.W.nsIn K mainGlobals "ask_all" = some (some (.ref f_ask_all)))
    (l_ask_all : K.lookup f_ask_all = some ⟨oc_ask_all, od_ask_all, .func (PySem.W.fnOf "ask_all" "ask_all" (defArgs s_ask_all) (defBody s_ask_all) (defScope s_ask_all) .none kV_ask_all dc_ask_all pm_ask_all an_ask_all cd_ask_all ct_ask_all), sl_ask_all⟩)
    (c_ask_all : PySem.W.codeIn K cd_ask_all "ask_all" = true)
    (k_ask_all : PySem.W.keepIn K (.ref f_ask_all) = true)
    (a_turned : PySem.W.nsIn K mainGlobals "turned" = some (some (.ref f_turned)))
    (l_turned : K.lookup f_turned = some ⟨oc_turned, od_turned, .func (PySem.W.fnOf "turned" "turned" (defArgs s_turned) (defBody s_turned) (defScope s_turned) .none kV_turned dc_turned pm_turned an_turned cd_turned ct_turned), sl_turned⟩)
    (c_turned : PySem.W.codeIn K cd_turned "turned" = true)
    (k_turned : PySem.W.keepIn K (.ref f_turned) = true)
    (a_turned_back : PySem.W.nsIn K mainGlobals "turned_back" = some (some (.ref f_turned_back)))
    (l_turned_back : K.lookup f_turned_back = some ⟨oc_turned_back, od_turned_back, .func (PySem.W.fnOf "turned_back" "turned_back" (defArgs s_turned_back) (defBody s_turned_back) (defScope s_turned_back) .none kV_turned_back dc_turned_back pm_turned_back an_turned_back cd_turned_back ct_turned_back), sl_turned_back⟩)
    (c_turned_back : PySem.W.codeIn K cd_turned_back "turned_back" = true)
    (k_turned_back : PySem.W.keepIn K (.ref f_turned_back) = true)
    (a_l_no_root : PySem.W.nsIn K mainGlobals "_law_no_root" = some (some (.ref f_l_no_root)))
    (l_l_no_root : K.lookup f_l_no_root = some ⟨oc_l_no_root, od_l_no_root, .func (PySem.W.fnOf "_law_no_root" "_law_no_root" (defArgs s_l_no_root) (defBody s_l_no_root) (defScope s_l_no_root) .none kV_l_no_root dc_l_no_root pm_l_no_root an_l_no_root cd_l_no_root ct_l_no_root), sl_l_no_root⟩)
    (c_l_no_root : PySem.W.codeIn K cd_l_no_root "_law_no_root" = true)
    (k_l_no_root : PySem.W.keepIn K (.ref f_l_no_root) = true)
    (a_ask_figures : PySem.W.nsIn K mainGlobals "ask_figures" = some (some (.ref f_ask_figures)))
    (l_ask_figures : K.lookup f_ask_figures = some ⟨oc_ask_figures, od_ask_figures, .func (PySem.W.fnOf "ask_figures" "ask_figures" (defArgs s_ask_figures) (defBody s_ask_figures) (defScope s_ask_figures) .none kV_ask_figures dc_ask_figures pm_ask_figures an_ask_figures cd_ask_figures ct_ask_figures), sl_ask_figures⟩)
    (c_ask_figures : PySem.W.codeIn K cd_ask_figures "ask_figures" = true)
    (k_ask_figures : PySem.W.keepIn K (.ref f_ask_figures) = true)
    (a_long_product : PySem.W.nsIn K mainGlobals "long_product" = some (some (.ref f_long_product)))
    (l_long_product : K.lookup f_long_product = some ⟨oc_long_product, od_long_product, .func (PySem.W.fnOf "long_product" "long_product" (defArgs s_long_product) (defBody s_long_product) (defScope s_long_product) .none kV_long_product dc_long_product pm_long_product an_long_product cd_long_product ct_long_product), sl_long_product⟩)
    (c_long_product : PySem.W.codeIn K cd_long_product "long_product" = true)
    (k_long_product : PySem.W.keepIn K (.ref f_long_product) = true)
    (a_ask_both : PySem.W.nsIn K mainGlobals "ask_both" = some (some (.ref f_ask_both)))
    (l_ask_both : K.lookup f_ask_both = some ⟨oc_ask_both, od_ask_both, .func (PySem.W.fnOf "ask_both" "ask_both" (defArgs s_ask_both) (defBody s_ask_both) (defScope s_ask_both) .none kV_ask_both dc_ask_both pm_ask_both an_ask_both cd_ask_both ct_ask_both), sl_ask_both⟩)
    (c_ask_both : PySem.W.codeIn K cd_ask_both "ask_both" = true)
    (k_ask_both : PySem.W.keepIn K (.ref f_ask_both) = true)
    (a_plain_product : PySem.W.nsIn K mainGlobals "plain_product" = some (some (.ref f_plain_product)))
    (l_plain_product : K.lookup f_plain_product = some ⟨oc_plain_product, od_plain_product, .func (PySem.W.fnOf "plain_product" "plain_product" (defArgs s_plain_product) (defBody s_plain_product) (defScope s_plain_product) .none kV_plain_product dc_plain_product pm_plain_product an_plain_product cd_plain_product ct_plain_product), sl_plain_product⟩)
    (c_plain_product : PySem.W.codeIn K cd_plain_product "plain_product" = true)
    (k_plain_product : PySem.W.keepIn K (.ref f_plain_product) = true)
    (a_ring_product : PySem.W.nsIn K mainGlobals "ring_product" = some (some (.ref f_ring_product)))
    (l_ring_product : K.lookup f_ring_product = some ⟨oc_ring_product, od_ring_product, .func (PySem.W.fnOf "ring_product" "ring_product" (defArgs s_ring_product) (defBody s_ring_product) (defScope s_ring_product) .none kV_ring_product dc_ring_product pm_ring_product an_ring_product cd_ring_product ct_ring_product), sl_ring_product⟩)
    (c_ring_product : PySem.W.codeIn K cd_ring_product "ring_product" = true)
    (k_ring_product : PySem.W.keepIn K (.ref f_ring_product) = true)
    (a_l_two : PySem.W.nsIn K mainGlobals "_law_two" = some (some (.ref f_l_two)))
    (l_l_two : K.lookup f_l_two = some ⟨oc_l_two, od_l_two, .func (PySem.W.fnOf "_law_two" "_law_two" (defArgs s_l_two) (defBody s_l_two) (defScope s_l_two) .none kV_l_two dc_l_two pm_l_two an_l_two cd_l_two ct_l_two), sl_l_two⟩)
    (c_l_two : PySem.W.codeIn K cd_l_two "_law_two" = true)
    (k_l_two : PySem.W.keepIn K (.ref f_l_two) = true)
    (a_row_through : PySem.W.nsIn K mainGlobals "row_through" = some (some (.ref f_row_through)))
    (l_row_through : K.lookup f_row_through = some ⟨oc_row_through, od_row_through, .func (PySem.W.fnOf "row_through" "row_through" (defArgs s_row_through) (defBody s_row_through) (defScope s_row_through) .none kV_row_through dc_row_through pm_row_through an_row_through cd_row_through ct_row_through), sl_row_through⟩)
    (c_row_through : PySem.W.codeIn K cd_row_through "row_through" = true)
    (k_row_through : PySem.W.keepIn K (.ref f_row_through) = true)
    (a_worth_at : PySem.W.nsIn K mainGlobals "worth_at" = some (some (.ref f_worth_at)))
    (l_worth_at : K.lookup f_worth_at = some ⟨oc_worth_at, od_worth_at, .func (PySem.W.fnOf "worth_at" "worth_at" (defArgs s_worth_at) (defBody s_worth_at) (defScope s_worth_at) .none kV_worth_at dc_worth_at pm_worth_at an_worth_at cd_worth_at ct_worth_at), sl_worth_at⟩)
    (c_worth_at : PySem.W.codeIn K cd_worth_at "worth_at" = true)
    (k_worth_at : PySem.W.keepIn K (.ref f_worth_at) = true)
    (a_l_no_row : PySem.W.nsIn K mainGlobals "_law_no_row" = some (some (.ref f_l_no_row)))
    (l_l_no_row : K.lookup f_l_no_row = some ⟨oc_l_no_row, od_l_no_row, .func (PySem.W.fnOf "_law_no_row" "_law_no_row" (defArgs s_l_no_row) (defBody s_l_no_row) (defScope s_l_no_row) .none kV_l_no_row dc_l_no_row pm_l_no_row an_l_no_row cd_l_no_row ct_l_no_row), sl_l_no_row⟩)
    (c_l_no_row : PySem.W.codeIn K cd_l_no_row "_law_no_row" = true)
    (k_l_no_row : PySem.W.keepIn K (.ref f_l_no_row) = true)
    (a_m_inverse : PySem.W.findIn K (.ref C) "inverse" = some (some (.ref f_m_inverse)))
    (i_m_inverse : PySem.W.isFn K (.ref f_m_inverse) = true)
    (l_m_inverse : K.lookup f_m_inverse = some ⟨oc_m_inverse, od_m_inverse, .func (PySem.W.fnOf "inverse" "Field.inverse" (defArgs s_m_inverse) (defBody s_m_inverse) (defScope s_m_inverse) .none kV_m_inverse dc_m_inverse pm_m_inverse an_m_inverse cd_m_inverse ct_m_inverse), sl_m_inverse⟩)
    (c_m_inverse : PySem.W.codeIn K cd_m_inverse "Field.inverse" = true)
    (k_m_inverse : PySem.W.keepIn K (.ref f_m_inverse) = true)
    (a_m_plus : PySem.W.findIn K (.ref C) "plus" = some (some (.ref f_m_plus)))
    (i_m_plus : PySem.W.isFn K (.ref f_m_plus) = true)
    (l_m_plus : K.lookup f_m_plus = some ⟨oc_m_plus, od_m_plus, .func (PySem.W.fnOf "plus" "Field.plus" (defArgs s_m_plus) (defBody s_m_plus) (defScope s_m_plus) .none kV_m_plus dc_m_plus pm_m_plus an_m_plus cd_m_plus ct_m_plus), sl_m_plus⟩)
    (c_m_plus : PySem.W.codeIn K cd_m_plus "Field.plus" = true)
    (k_m_plus : PySem.W.keepIn K (.ref f_m_plus) = true)
    (a_m_power : PySem.W.findIn K (.ref C) "power" = some (some (.ref f_m_power)))
    (i_m_power : PySem.W.isFn K (.ref f_m_power) = true)
    (l_m_power : K.lookup f_m_power = some ⟨oc_m_power, od_m_power, .func (PySem.W.fnOf "power" "Field.power" (defArgs s_m_power) (defBody s_m_power) (defScope s_m_power) .none kV_m_power dc_m_power pm_m_power an_m_power cd_m_power ct_m_power), sl_m_power⟩)
    (c_m_power : PySem.W.codeIn K cd_m_power "Field.power" = true)
    (k_m_power : PySem.W.keepIn K (.ref f_m_power) = true)
    (a_m_times : PySem.W.findIn K (.ref C) "times" = some (some (.ref f_m_times)))
    (i_m_times : PySem.W.isFn K (.ref f_m_times) = true)
    (l_m_times : K.lookup f_m_times = some ⟨oc_m_times, od_m_times, .func (PySem.W.fnOf "times" "Field.times" (defArgs s_m_times) (defBody s_m_times) (defScope s_m_times) .none kV_m_times dc_m_times pm_m_times an_m_times cd_m_times ct_m_times), sl_m_times⟩)
    (c_m_times : PySem.W.codeIn K cd_m_times "Field.times" = true)
    (k_m_times : PySem.W.keepIn K (.ref f_m_times) = true)
    (a_l_one_rest : PySem.W.nsIn K mainGlobals "_law_one_rest" = some (some (.ref f_l_one_rest)))
    (l_l_one_rest : K.lookup f_l_one_rest = some ⟨oc_l_one_rest, od_l_one_rest, .func (PySem.W.fnOf "_law_one_rest" "_law_one_rest" (defArgs s_l_one_rest) (defBody s_l_one_rest) (defScope s_l_one_rest) .none kV_l_one_rest dc_l_one_rest pm_l_one_rest an_l_one_rest cd_l_one_rest ct_l_one_rest), sl_l_one_rest⟩)
    (c_l_one_rest : PySem.W.codeIn K cd_l_one_rest "_law_one_rest" = true)
    (k_l_one_rest : PySem.W.keepIn K (.ref f_l_one_rest) = true)
    (a_l_row_rest : PySem.W.nsIn K mainGlobals "_law_row_rest" = some (some (.ref f_l_row_rest)))
    (l_l_row_rest : K.lookup f_l_row_rest = some ⟨oc_l_row_rest, od_l_row_rest, .func (PySem.W.fnOf "_law_row_rest" "_law_row_rest" (defArgs s_l_row_rest) (defBody s_l_row_rest) (defScope s_l_row_rest) .none kV_l_row_rest dc_l_row_rest pm_l_row_rest an_l_row_rest cd_l_row_rest ct_l_row_rest), sl_l_row_rest⟩)
    (c_l_row_rest : PySem.W.codeIn K cd_l_row_rest "_law_row_rest" = true)
    (k_l_row_rest : PySem.W.keepIn K (.ref f_l_row_rest) = true)
    (a_l_which : PySem.W.nsIn K mainGlobals "_law_which" = some (some (.ref f_l_which)))
    (l_l_which : K.lookup f_l_which = some ⟨oc_l_which, od_l_which, .func (PySem.W.fnOf "_law_which" "_law_which" (defArgs s_l_which) (defBody s_l_which) (defScope s_l_which) .none kV_l_which dc_l_which pm_l_which an_l_which cd_l_which ct_l_which), sl_l_which⟩)
    (c_l_which : PySem.W.codeIn K cd_l_which "_law_which" = true)
    (k_l_which : PySem.W.keepIn K (.ref f_l_which) = true)
    (a_law : PySem.W.nsIn K mainGlobals "law" = some (some (.ref f_law)))
    (l_law : K.lookup f_law = some ⟨oc_law, od_law, .func (PySem.W.fnOf "law" "law" (defArgs s_law) (defBody s_law) (defScope s_law) .none kV_law dc_law pm_law an_law cd_law ct_law), sl_law⟩)
    (c_law : PySem.W.codeIn K cd_law "law" = true)
    (k_law : PySem.W.keepIn K (.ref f_law) = true)
    (pgC : PySem.W.plainGet K C Str.empty = true)
    (hdC : PySem.W.hasDictIn K C = true)
    (poC : PySem.W.plainOver K C = true)
    (saC : PySem.W.findIn K (.ref C) "__setattr__" = some (some (.builtin "object.__setattr__")))
    (npC : PySem.W.findIn K (.ref C) "prime" = some none)
    (mkC : PySem.W.makesIn K C = true)
    (kcC : PySem.W.keepIn K (.ref C) = true)
    (aX_NoPrime : PySem.W.nsIn K mainGlobals "NoPrime" = some (some (.ref x_NoPrime)))
    (aX_NoRest : PySem.W.nsIn K mainGlobals "NoRest" = some (some (.ref x_NoRest)))
    (aX_NoRoot : PySem.W.nsIn K mainGlobals "NoRoot" = some (some (.ref x_NoRoot)))
    (aX_NoRow : PySem.W.nsIn K mainGlobals "NoRow" = some (some (.ref x_NoRow)))
    (aX_SpinError : PySem.W.nsIn K mainGlobals "SpinError" = some (some (.ref x_SpinError)))
    (kX_NoPrime : PySem.W.keepIn K (.ref x_NoPrime) = true)
    (qX_NoPrime : PySem.W.excIn K x_NoPrime [.type "ValueError", .type "Exception", .type "BaseException", .type "object"] "ValueError.__new__" = true)
    (sX_NoPrime : PySem.W.subIn K (.ref x_NoPrime) (.type "BaseException") = some true)
    (tX_NoPrime : PySem.W.typeIn K (.ref x_NoPrime) = some (.type "type"))
    (eX_NoPrime : PySem.W.exmOne K (.ref x_NoPrime) (.ref x_SpinError) = some true)
    (c1_NoPrime : PySem.W.findIn K (.ref x_NoPrime) "__getattribute__" = some (some (.builtin "BaseException.__getattribute__")))
    (c2_NoPrime : PySem.W.findIn K (.ref x_NoPrime) "__getattr__" = some none)
    (c3_NoPrime : PySem.W.hasDictIn K x_NoPrime = true)
    (c4_NoPrime : PySem.W.findIn K (.ref x_NoPrime) "__class__" = some (some (.builtin "object.__class__")))
    (c5_NoPrime : PySem.W.mroIn K x_NoPrime (.type "object") = some true)
    (kX_NoRest : PySem.W.keepIn K (.ref x_NoRest) = true)
    (qX_NoRest : PySem.W.excIn K x_NoRest [.type "ValueError", .type "Exception", .type "BaseException", .type "object"] "ValueError.__new__" = true)
    (sX_NoRest : PySem.W.subIn K (.ref x_NoRest) (.type "BaseException") = some true)
    (tX_NoRest : PySem.W.typeIn K (.ref x_NoRest) = some (.type "type"))
    (eX_NoRest : PySem.W.exmOne K (.ref x_NoRest) (.ref x_SpinError) = some true)
    (c1_NoRest : PySem.W.findIn K (.ref x_NoRest) "__getattribute__" = some (some (.builtin "BaseException.__getattribute__")))
    (c2_NoRest : PySem.W.findIn K (.ref x_NoRest) "__getattr__" = some none)
    (c3_NoRest : PySem.W.hasDictIn K x_NoRest = true)
    (c4_NoRest : PySem.W.findIn K (.ref x_NoRest) "__class__" = some (some (.builtin "object.__class__")))
    (c5_NoRest : PySem.W.mroIn K x_NoRest (.type "object") = some true)
    (kX_NoRoot : PySem.W.keepIn K (.ref x_NoRoot) = true)
    (qX_NoRoot : PySem.W.excIn K x_NoRoot [.type "ValueError", .type "Exception", .type "BaseException", .type "object"] "ValueError.__new__" = true)
    (sX_NoRoot : PySem.W.subIn K (.ref x_NoRoot) (.type "BaseException") = some true)
    (tX_NoRoot : PySem.W.typeIn K (.ref x_NoRoot) = some (.type "type"))
    (eX_NoRoot : PySem.W.exmOne K (.ref x_NoRoot) (.ref x_SpinError) = some true)
    (c1_NoRoot : PySem.W.findIn K (.ref x_NoRoot) "__getattribute__" = some (some (.builtin "BaseException.__getattribute__")))
    (c2_NoRoot : PySem.W.findIn K (.ref x_NoRoot) "__getattr__" = some none)
    (c3_NoRoot : PySem.W.hasDictIn K x_NoRoot = true)
    (c4_NoRoot : PySem.W.findIn K (.ref x_NoRoot) "__class__" = some (some (.builtin "object.__class__")))
    (c5_NoRoot : PySem.W.mroIn K x_NoRoot (.type "object") = some true)
    (kX_NoRow : PySem.W.keepIn K (.ref x_NoRow) = true)
    (qX_NoRow : PySem.W.excIn K x_NoRow [.type "ValueError", .type "Exception", .type "BaseException", .type "object"] "ValueError.__new__" = true)
    (sX_NoRow : PySem.W.subIn K (.ref x_NoRow) (.type "BaseException") = some true)
    (tX_NoRow : PySem.W.typeIn K (.ref x_NoRow) = some (.type "type"))
    (eX_NoRow : PySem.W.exmOne K (.ref x_NoRow) (.ref x_SpinError) = some true)
    (c1_NoRow : PySem.W.findIn K (.ref x_NoRow) "__getattribute__" = some (some (.builtin "BaseException.__getattribute__")))
    (c2_NoRow : PySem.W.findIn K (.ref x_NoRow) "__getattr__" = some none)
    (c3_NoRow : PySem.W.hasDictIn K x_NoRow = true)
    (c4_NoRow : PySem.W.findIn K (.ref x_NoRow) "__class__" = some (some (.builtin "object.__class__")))
    (c5_NoRow : PySem.W.mroIn K x_NoRow (.type "object") = some true)
    (kX_SpinError : PySem.W.keepIn K (.ref x_SpinError) = true)
    (qX_SpinError : PySem.W.excIn K x_SpinError [.type "ValueError", .type "Exception", .type "BaseException", .type "object"] "ValueError.__new__" = true)
    (sX_SpinError : PySem.W.subIn K (.ref x_SpinError) (.type "BaseException") = some true)
    (tX_SpinError : PySem.W.typeIn K (.ref x_SpinError) = some (.type "type"))
    (eX_SpinError : PySem.W.exmOne K (.ref x_SpinError) (.ref x_SpinError) = some true)
    (c1_SpinError : PySem.W.findIn K (.ref x_SpinError) "__getattribute__" = some (some (.builtin "BaseException.__getattribute__")))
    (c2_SpinError : PySem.W.findIn K (.ref x_SpinError) "__getattr__" = some none)
    (c3_SpinError : PySem.W.hasDictIn K x_SpinError = true)
    (c4_SpinError : PySem.W.findIn K (.ref x_SpinError) "__class__" = some (some (.builtin "object.__class__")))
    (c5_SpinError : PySem.W.mroIn K x_SpinError (.type "object") = some true)
    (c6 : PySem.W.specialIn K (.builtin "object.__class__") "__get__" = some (some (.builtin "getset_descriptor.__get__")))
    (c7 : PySem.W.takesIn K (.builtin "object.__class__") = some true)
    (K_NoPrime_NoPrime : PySem.W.kitOne K (.ref x_NoPrime) (.ref x_NoPrime) = some true)
    (K_NoPrime_NoRest : PySem.W.kitOne K (.ref x_NoPrime) (.ref x_NoRest) = some false)
    (K_NoPrime_NoRoot : PySem.W.kitOne K (.ref x_NoPrime) (.ref x_NoRoot) = some false)
    (K_NoPrime_NoRow : PySem.W.kitOne K (.ref x_NoPrime) (.ref x_NoRow) = some false)
    (K_NoPrime_SpinError : PySem.W.kitOne K (.ref x_NoPrime) (.ref x_SpinError) = some true)
    (V_NoPrime : PySem.W.kitOne K (.ref x_NoPrime) (.type "ValueError") = some true)
    (K_NoRest_NoPrime : PySem.W.kitOne K (.ref x_NoRest) (.ref x_NoPrime) = some false)
    (K_NoRest_NoRest : PySem.W.kitOne K (.ref x_NoRest) (.ref x_NoRest) = some true)
    (K_NoRest_NoRoot : PySem.W.kitOne K (.ref x_NoRest) (.ref x_NoRoot) = some false)
    (K_NoRest_NoRow : PySem.W.kitOne K (.ref x_NoRest) (.ref x_NoRow) = some false)
    (K_NoRest_SpinError : PySem.W.kitOne K (.ref x_NoRest) (.ref x_SpinError) = some true)
    (V_NoRest : PySem.W.kitOne K (.ref x_NoRest) (.type "ValueError") = some true)
    (K_NoRoot_NoPrime : PySem.W.kitOne K (.ref x_NoRoot) (.ref x_NoPrime) = some false)
    (K_NoRoot_NoRest : PySem.W.kitOne K (.ref x_NoRoot) (.ref x_NoRest) = some false)
    (K_NoRoot_NoRoot : PySem.W.kitOne K (.ref x_NoRoot) (.ref x_NoRoot) = some true)
    (K_NoRoot_NoRow : PySem.W.kitOne K (.ref x_NoRoot) (.ref x_NoRow) = some false)
    (K_NoRoot_SpinError : PySem.W.kitOne K (.ref x_NoRoot) (.ref x_SpinError) = some true)
    (V_NoRoot : PySem.W.kitOne K (.ref x_NoRoot) (.type "ValueError") = some true)
    (K_NoRow_NoPrime : PySem.W.kitOne K (.ref x_NoRow) (.ref x_NoPrime) = some false)
    (K_NoRow_NoRest : PySem.W.kitOne K (.ref x_NoRow) (.ref x_NoRest) = some false)
    (K_NoRow_NoRoot : PySem.W.kitOne K (.ref x_NoRow) (.ref x_NoRoot) = some false)
    (K_NoRow_NoRow : PySem.W.kitOne K (.ref x_NoRow) (.ref x_NoRow) = some true)
    (K_NoRow_SpinError : PySem.W.kitOne K (.ref x_NoRow) (.ref x_SpinError) = some true)
    (V_NoRow : PySem.W.kitOne K (.ref x_NoRow) (.type "ValueError") = some true)
    (z_ValueError : PySem.W.nsIn K mainGlobals "ValueError" = some none)
    (z_abs : PySem.W.nsIn K mainGlobals "abs" = some none)
    (z_isinstance : PySem.W.nsIn K mainGlobals "isinstance" = some none)
    (z_len : PySem.W.nsIn K mainGlobals "len" = some none)
    (z_list : PySem.W.nsIn K mainGlobals "list" = some none)
    (z_range : PySem.W.nsIn K mainGlobals "range" = some none)
    (z_set : PySem.W.nsIn K mainGlobals "set" = some none)
    (v_GREATEST : PySem.W.nsIn K mainGlobals "GREATEST" = some (some (.int 997 tk_GREATEST)))
    (v_MOST_POINTS : PySem.W.nsIn K mainGlobals "MOST_POINTS" = some (some (.int 32 tk_MOST_POINTS)))
    (a_PRIMES : PySem.W.nsIn K mainGlobals "PRIMES" = some (some (.ref P_PRIMES)))
    (l_PRIMES : K.lookup P_PRIMES = some ⟨.type "list", Option.none, .seq #[.int 193 t0_PRIMES, .int 257 t1_PRIMES, .int 449 t2_PRIMES] nn_PRIMES, sl_PRIMES⟩) :
    ∃ fd : FuncData, (∀ (s : Shared) (v : Value), BindsTo s fd ⟨[v], []⟩ [("script", v)]) ∧ ∀ base : Heap, K.In base → base.Ns mainGlobals mg → FnOk l.prog w K mg base CX0 7 fa fd ["script"] (sp_law K 0) := by
  have e := hfa.symm.trans (PySem.W.mg_of X G a_law)
  cases e
  have F_l_cell_at := fun_mk (st := s_l_cell_at) l_l_cell_at c_l_cell_at k_l_cell_at
  have b_l_cell_at := F_l_cell_at.binds (ps := ["script", "k"]) fun _ _ _ _ _ _ us hl => match us, hl with | [_, _], _ => rfl
  have F_l_order := fun_mk (st := s_l_order) l_l_order c_l_order k_l_order
  have b_l_order := F_l_order.binds (ps := ["one"]) fun _ _ _ _ _ _ us hl => match us, hl with | [_], _ => rfl
  have F_is_prime := fun_mk (st := s_is_prime) l_is_prime c_is_prime k_is_prime
  have b_is_prime := F_is_prime.binds (ps := ["number"]) fun _ _ _ _ _ _ us hl => match us, hl with | [_], _ => rfl
  have F_m_init := fun_mk (st := s_m_init) l_m_init c_m_init k_m_init
  have b_m_init := F_m_init.binds (ps := ["self", "prime"]) fun _ _ _ _ _ _ us hl => match us, hl with | [_, _], _ => rfl
  have F_m_ask := fun_mk (st := s_m_ask) l_m_ask c_m_ask k_m_ask
  have b_m_ask := F_m_ask.binds (ps := ["self", "some", "least"]) fun _ _ _ _ _ _ us hl => match us, hl with | [_, _, _], _ => rfl
  have F_ask_row := fun_mk (st := s_ask_row) l_ask_row c_ask_row k_ask_row
  have b_ask_row := F_ask_row.binds (ps := ["field", "row"]) fun _ _ _ _ _ _ us hl => match us, hl with | [_, _], _ => rfl
  have F_m_order := fun_mk (st := s_m_order) l_m_order c_m_order k_m_order
  have b_m_order := F_m_order.binds (ps := ["self", "one"]) fun _ _ _ _ _ _ us hl => match us, hl with | [_, _], _ => rfl
  have F_ask_all := fun_mk (st := s_ask_all) l_ask_all c_ask_all k_ask_all
  have b_ask_all := F_ask_all.binds (ps := ["field", "root", "row"]) fun _ _ _ _ _ _ us hl => match us, hl with | [_, _, _], _ => rfl
  have F_turned := fun_mk (st := s_turned) l_turned c_turned k_turned
  have b_turned := F_turned.binds (ps := ["field", "root", "row"]) fun _ _ _ _ _ _ us hl => match us, hl with | [_, _, _], _ => rfl
  have F_turned_back := fun_mk (st := s_turned_back) l_turned_back c_turned_back k_turned_back
  have b_turned_back := F_turned_back.binds (ps := ["field", "root", "row"]) fun _ _ _ _ _ _ us hl => match us, hl with | [_, _, _], _ => rfl
  have F_l_no_root := fun_mk (st := s_l_no_root) l_l_no_root c_l_no_root k_l_no_root
  have b_l_no_root := F_l_no_root.binds (ps := ["field", "cell"]) fun _ _ _ _ _ _ us hl => match us, hl with | [_, _], _ => rfl
  have F_ask_figures := fun_mk (st := s_ask_figures) l_ask_figures c_ask_figures k_ask_figures
  have b_ask_figures := F_ask_figures.binds (ps := ["some"]) fun _ _ _ _ _ _ us hl => match us, hl with | [_], _ => rfl
  have F_long_product := fun_mk (st := s_long_product) l_long_product c_long_product k_long_product
  have b_long_product := F_long_product.binds (ps := ["one", "other"]) fun _ _ _ _ _ _ us hl => match us, hl with | [_, _], _ => rfl
  have F_ask_both := fun_mk (st := s_ask_both) l_ask_both c_ask_both k_ask_both
  have b_ask_both := F_ask_both.binds (ps := ["field", "one", "other"]) fun _ _ _ _ _ _ us hl => match us, hl with | [_, _, _], _ => rfl
  have F_plain_product := fun_mk (st := s_plain_product) l_plain_product c_plain_product k_plain_product
  have b_plain_product := F_plain_product.binds (ps := ["field", "one", "other"]) fun _ _ _ _ _ _ us hl => match us, hl with | [_, _, _], _ => rfl
  have F_ring_product := fun_mk (st := s_ring_product) l_ring_product c_ring_product k_ring_product
  have b_ring_product := F_ring_product.binds (ps := ["field", "one", "other"]) fun _ _ _ _ _ _ us hl => match us, hl with | [_, _, _], _ => rfl
  have F_l_two := fun_mk (st := s_l_two) l_l_two c_l_two k_l_two
  have b_l_two := F_l_two.binds (ps := ["way", "field", "one", "other", "turn"]) fun _ _ _ _ _ _ us hl => match us, hl with | [_, _, _, _, _], _ => rfl
  have F_row_through := fun_mk (st := s_row_through) l_row_through c_row_through k_row_through
  have b_row_through := F_row_through.binds (ps := ["field", "points"]) fun _ _ _ _ _ _ us hl => match us, hl with | [_, _], _ => rfl
  have F_worth_at := fun_mk (st := s_worth_at) l_worth_at c_worth_at k_worth_at
  have b_worth_at := F_worth_at.binds (ps := ["field", "row", "one"]) fun _ _ _ _ _ _ us hl => match us, hl with | [_, _, _], _ => rfl
  have F_l_no_row := fun_mk (st := s_l_no_row) l_l_no_row c_l_no_row k_l_no_row
  have b_l_no_row := F_l_no_row.binds (ps := ["field", "cell"]) fun _ _ _ _ _ _ us hl => match us, hl with | [_, _], _ => rfl
  have F_m_inverse := fun_mk (st := s_m_inverse) l_m_inverse c_m_inverse k_m_inverse
  have b_m_inverse := F_m_inverse.binds (ps := ["self", "one"]) fun _ _ _ _ _ _ us hl => match us, hl with | [_, _], _ => rfl
  have F_m_plus := fun_mk (st := s_m_plus) l_m_plus c_m_plus k_m_plus
  have b_m_plus := F_m_plus.binds (ps := ["self", "one", "other"]) fun _ _ _ _ _ _ us hl => match us, hl with | [_, _, _], _ => rfl
  have F_m_power := fun_mk (st := s_m_power) l_m_power c_m_power k_m_power
  have b_m_power := F_m_power.binds (ps := ["self", "one", "often"]) fun _ _ _ _ _ _ us hl => match us, hl with | [_, _, _], _ => rfl
  have F_m_times := fun_mk (st := s_m_times) l_m_times c_m_times k_m_times
  have b_m_times := F_m_times.binds (ps := ["self", "one", "other"]) fun _ _ _ _ _ _ us hl => match us, hl with | [_, _, _], _ => rfl
  have F_l_one_rest := fun_mk (st := s_l_one_rest) l_l_one_rest c_l_one_rest k_l_one_rest
  have b_l_one_rest := F_l_one_rest.binds (ps := ["field", "cell", "bad"]) fun _ _ _ _ _ _ us hl => match us, hl with | [_, _, _], _ => rfl
  have F_l_row_rest := fun_mk (st := s_l_row_rest) l_l_row_rest c_l_row_rest k_l_row_rest
  have b_l_row_rest := F_l_row_rest.binds (ps := ["field", "cell", "bad"]) fun _ _ _ _ _ _ us hl => match us, hl with | [_, _, _], _ => rfl
  have F_l_which := fun_mk (st := s_l_which) l_l_which c_l_which k_l_which
  have b_l_which := F_l_which.binds (ps := ["e"]) fun _ _ _ _ _ _ us hl => match us, hl with | [_], _ => rfl
  have F_law := fun_mk (st := s_law) l_law c_law k_law
  have b_law := F_law.binds (ps := ["script"]) fun _ _ _ _ _ _ us hl => match us, hl with | [_], _ => rfl
  let T : Env K mg := { C := C, f_l_cell_at := f_l_cell_at, d_l_cell_at := _, F_l_cell_at := F_l_cell_at, b_l_cell_at := b_l_cell_at, g_l_cell_at := PySem.W.mg_of X G a_l_cell_at, f_l_order := f_l_order, d_l_order := _, F_l_order := F_l_order, b_l_order := b_l_order, g_l_order := PySem.W.mg_of X G a_l_order, f_is_prime := f_is_prime, d_is_prime := _, F_is_prime := F_is_prime, b_is_prime := b_is_prime, g_is_prime := PySem.W.mg_of X G a_is_prime, f_m_init := f_m_init, d_m_init := _, F_m_init := F_m_init, b_m_init := b_m_init, M_C := ⟨mkC, a_m_init, i_m_init, kcC⟩, f_m_ask := f_m_ask, d_m_ask := _, F_m_ask := F_m_ask, b_m_ask := b_m_ask, h_m_ask := ⟨a_m_ask, i_m_ask, k_m_ask⟩, f_ask_row := f_ask_row, d_ask_row := _, F_ask_row := F_ask_row, b_ask_row := b_ask_row, g_ask_row := PySem.W.mg_of X G a_ask_row, f_m_order := f_m_order, d_m_order := _, F_m_order := F_m_order, b_m_order := b_m_order, h_m_order := ⟨a_m_order, i_m_order, k_m_order⟩, f_ask_all := f_ask_all, d_ask_all := _, F_ask_all := F_ask_all, b_ask_all := b_ask_all, g_ask_all := PySem.W.mg_of X G a_ask_all, f_turned := f_turned, d_turned := _, F_turned := F_turned, b_turned := b_turned, g_turned := PySem.W.mg_of X G a_turned, f_turned_back := f_turned_back, d_turned_back := _, F_turned_back := F_turned_back, b_turned_back := b_turned_back, g_turned_back := PySem.W.mg_of X G a_turned_back, f_l_no_root := f_l_no_root, d_l_no_root := _, F_l_no_root := F_l_no_root, b_l_no_root := b_l_no_root, g_l_no_root := PySem.W.mg_of X G a_l_no_root, f_ask_figures := f_ask_figures, d_ask_figures := _, F_ask_figures := F_ask_figures, b_ask_figures := b_ask_figures, g_ask_figures := PySem.W.mg_of X G a_ask_figures, f_long_product := f_long_product, d_long_product := _, F_long_product := F_long_product, b_long_product := b_long_product, g_long_product := PySem.W.mg_of X G a_long_product, f_ask_both := f_ask_both, d_ask_both := _, F_ask_both := F_ask_both, b_ask_both := b_ask_both, g_ask_both := PySem.W.mg_of X G a_ask_both, f_plain_product := f_plain_product, d_plain_product := _, F_plain_product := F_plain_product, b_plain_product := b_plain_product, g_plain_product := PySem.W.mg_of X G a_plain_product, f_ring_product := f_ring_product, d_ring_product := _, F_ring_product := F_ring_product, b_ring_product := b_ring_product, g_ring_product := PySem.W.mg_of X G a_ring_product, f_l_two := f_l_two, d_l_two := _, F_l_two := F_l_two, b_l_two := b_l_two, g_l_two := PySem.W.mg_of X G a_l_two, f_row_through := f_row_through, d_row_through := _, F_row_through := F_row_through, b_row_through := b_row_through, g_row_through := PySem.W.mg_of X G a_row_through, f_worth_at := f_worth_at, d_worth_at := _, F_worth_at := F_worth_at, b_worth_at := b_worth_at, g_worth_at := PySem.W.mg_of X G a_worth_at, f_l_no_row := f_l_no_row, d_l_no_row := _, F_l_no_row := F_l_no_row, b_l_no_row := b_l_no_row, g_l_no_row := PySem.W.mg_of X G a_l_no_row, f_m_inverse := f_m_inverse, d_m_inverse := _, F_m_inverse := F_m_inverse, b_m_inverse := b_m_inverse, h_m_inverse := ⟨a_m_inverse, i_m_inverse, k_m_inverse⟩, f_m_plus := f_m_plus, d_m_plus := _, F_m_plus := F_m_plus, b_m_plus := b_m_plus, h_m_plus := ⟨a_m_plus, i_m_plus, k_m_plus⟩, f_m_power := f_m_power, d_m_power := _, F_m_power := F_m_power, b_m_power := b_m_power, h_m_power := ⟨a_m_power, i_m_power, k_m_power⟩, f_m_times := f_m_times, d_m_times := _, F_m_times := F_m_times, b_m_times := b_m_times, h_m_times := ⟨a_m_times, i_m_times, k_m_times⟩, f_l_one_rest := f_l_one_rest, d_l_one_rest := _, F_l_one_rest := F_l_one_rest, b_l_one_rest := b_l_one_rest, g_l_one_rest := PySem.W.mg_of X G a_l_one_rest, f_l_row_rest := f_l_row_rest, d_l_row_rest := _, F_l_row_rest := F_l_row_rest, b_l_row_rest := b_l_row_rest, g_l_row_rest := PySem.W.mg_of X G a_l_row_rest, f_l_which := f_l_which, d_l_which := _, F_l_which := F_l_which, b_l_which := b_l_which, g_l_which := PySem.W.mg_of X G a_l_which, f_law := fa, d_law := _, F_law := F_law, b_law := b_law, g_law := PySem.W.mg_of X G a_law, cl_C := ⟨pgC, hdC, poC, saC⟩, np_C := npC, g_C := PySem.W.mg_of X G aC, x_NoPrime := x_NoPrime, X_NoPrime := ⟨PySem.W.mg_of X G aX_NoPrime, kX_NoPrime, qX_NoPrime, sX_NoPrime, tX_NoPrime, eX_NoPrime, ⟨c1_NoPrime, c2_NoPrime, sX_NoPrime, c3_NoPrime, c4_NoPrime, c6, c7, c5_NoPrime⟩⟩, x_NoRest := x_NoRest, X_NoRest := ⟨PySem.W.mg_of X G aX_NoRest, kX_NoRest, qX_NoRest, sX_NoRest, tX_NoRest, eX_NoRest, ⟨c1_NoRest, c2_NoRest, sX_NoRest, c3_NoRest, c4_NoRest, c6, c7, c5_NoRest⟩⟩, x_NoRoot := x_NoRoot, X_NoRoot := ⟨PySem.W.mg_of X G aX_NoRoot, kX_NoRoot, qX_NoRoot, sX_NoRoot, tX_NoRoot, eX_NoRoot, ⟨c1_NoRoot, c2_NoRoot, sX_NoRoot, c3_NoRoot, c4_NoRoot, c6, c7, c5_NoRoot⟩⟩, x_NoRow := x_NoRow, X_NoRow := ⟨PySem.W.mg_of X G aX_NoRow, kX_NoRow, qX_NoRow, sX_NoRow, tX_NoRow, eX_NoRow, ⟨c1_NoRow, c2_NoRow, sX_NoRow, c3_NoRow, c4_NoRow, c6, c7, c5_NoRow⟩⟩, x_SpinError := x_SpinError, X_SpinError := ⟨PySem.W.mg_of X G aX_SpinError, kX_SpinError, qX_SpinError, sX_SpinError, tX_SpinError, eX_SpinError, ⟨c1_SpinError, c2_SpinError, sX_SpinError, c3_SpinError, c4_SpinError, c6, c7, c5_SpinError⟩⟩, K_NoPrime_NoPrime := K_NoPrime_NoPrime, K_NoPrime_NoRest := K_NoPrime_NoRest, K_NoPrime_NoRoot := K_NoPrime_NoRoot, K_NoPrime_NoRow := K_NoPrime_NoRow, K_NoPrime_SpinError := K_NoPrime_SpinError, V_NoPrime := V_NoPrime, K_NoRest_NoPrime := K_NoRest_NoPrime, K_NoRest_NoRest := K_NoRest_NoRest, K_NoRest_NoRoot := K_NoRest_NoRoot, K_NoRest_NoRow := K_NoRest_NoRow, K_NoRest_SpinError := K_NoRest_SpinError, V_NoRest := V_NoRest, K_NoRoot_NoPrime := K_NoRoot_NoPrime, K_NoRoot_NoRest := K_NoRoot_NoRest, K_NoRoot_NoRoot := K_NoRoot_NoRoot, K_NoRoot_NoRow := K_NoRoot_NoRow, K_NoRoot_SpinError := K_NoRoot_SpinError, V_NoRoot := V_NoRoot, K_NoRow_NoPrime := K_NoRow_NoPrime, K_NoRow_NoRest := K_NoRow_NoRest, K_NoRow_NoRoot := K_NoRow_NoRoot, K_NoRow_NoRow := K_NoRow_NoRow, K_NoRow_SpinError := K_NoRow_SpinError, V_NoRow := V_NoRow, n_ValueError := PySem.W.mg_none_of X G z_ValueError, n_abs := PySem.W.mg_none_of X G z_abs, n_isinstance := PySem.W.mg_none_of X G z_isinstance, n_len := PySem.W.mg_none_of X G z_len, n_list := PySem.W.mg_none_of X G z_list, n_range := PySem.W.mg_none_of X G z_range, n_set := PySem.W.mg_none_of X G z_set, c_GREATEST := ⟨tk_GREATEST, PySem.W.mg_of X G v_GREATEST⟩, c_MOST_POINTS := ⟨tk_MOST_POINTS, PySem.W.mg_of X G v_MOST_POINTS⟩, P_PRIMES := P_PRIMES, g_PRIMES := PySem.W.mg_of X G a_PRIMES, q_PRIMES := fun H => .inr ⟨_, _, _, l_PRIMES, rfl, rfl, rfl, line_le (by show 3 ≤ 1000; decide), .cons ⟨_, rfl⟩ (.cons ⟨_, rfl⟩ (.cons ⟨_, rfl⟩ (.nil)))⟩ }
  exact ⟨T.d_law, fun s v => .of_eq rfl, fun base _ _ => ok_law T⟩
end Spw
open PySem PySem.W PyProof.Rows
set_option maxRecDepth 100000 in
set_option maxHeartbeats 0 in
theorem PySem.Challenge.cw_spinsum_k14_each_refusal_its_own_holds : PySem.Challenge.rw_spinsum_k14_each_refusal_its_own.Holds := by
  w_on; o_law; k_head; (case hw => w_witness2)
  k_fill
  refine L2.walk_of (l := PySem.Challenge.rw_spinsum_k14_each_refusal_its_own) (n := 63) (k := 7) (x := "script") (CX := fun _ => L2.CX0) (sp := fun w => Spw.sp_law _ 0) rfl (by decide) rfl ⟨rfl, by decide, by decide⟩ (fun w h Y => PySem.W.kIn_of Y) ?F (fun _ _ a ns hl _ hS => ⟨a, ns, rfl, hS, hl, fun _ => rfl⟩) (fun _ _ _ _ _ h => h)
  case F =>
    intro w mg fa h KX G hmg
    refine' Spw.all_mk KX G hmg ?aC ?a_l_cell_at ?l_l_cell_at ?c_l_cell_at ?k_l_cell_at ?a_l_order ?l_l_order ?c_l_order ?k_l_order ?a_is_prime ?l_is_prime ?c_is_prime ?k_is_prime ?a_m_init ?i_m_init ?l_m_init ?c_m_init ?k_m_init ?a_m_ask ?i_m_ask ?l_m_ask ?c_m_ask ?k_m_ask ?a_ask_row ?l_ask_row ?c_ask_row ?k_ask_row ?a_m_order ?i_m_order ?l_m_order ?c_m_order ?k_m_order ?a_ask_all ?l_ask_all ?c_ask_all ?k_ask_all ?a_turned ?l_turned ?c_turned ?k_turned ?a_turned_back ?l_turned_back ?c_turned_back ?k_turned_back ?a_l_no_root ?l_l_no_root ?c_l_no_root ?k_l_no_root ?a_ask_figures ?l_ask_figures ?c_ask_figures ?k_ask_figures ?a_long_product ?l_long_product ?c_long_product ?k_long_product ?a_ask_both ?l_ask_both ?c_ask_both ?k_ask_both ?a_plain_product ?l_plain_product ?c_plain_product ?k_plain_product ?a_ring_product ?l_ring_product ?c_ring_product ?k_ring_product ?a_l_two ?l_l_two ?c_l_two ?k_l_two ?a_row_through ?l_row_through ?c_row_through ?k_row_through ?a_worth_at ?l_worth_at ?c_worth_at ?k_worth_at ?a_l_no_row ?l_l_no_row ?c_l_no_row ?k_l_no_row ?a_m_inverse ?i_m_inverse ?l_m_inverse ?c_m_inverse ?k_m_inverse ?a_m_plus ?i_m_plus ?l_m_plus ?c_m_plus ?k_m_plus ?a_m_power ?i_m_power ?l_m_power ?c_m_power ?k_m_power ?a_m_times ?i_m_times ?l_m_times ?c_m_times ?k_m_times ?a_l_one_rest ?l_l_one_rest ?c_l_one_rest ?k_l_one_rest ?a_l_row_rest ?l_l_row_rest ?c_l_row_rest ?k_l_row_rest ?a_l_which ?l_l_which ?c_l_which ?k_l_which ?a_law ?l_law ?c_law ?k_law ?pgC ?hdC ?poC ?saC ?npC ?mkC ?kcC ?aX_NoPrime ?aX_NoRest ?aX_NoRoot ?aX_NoRow ?aX_SpinError ?kX_NoPrime ?qX_NoPrime ?sX_NoPrime ?tX_NoPrime ?eX_NoPrime ?c1_NoPrime ?c2_NoPrime ?c3_NoPrime ?c4_NoPrime ?c5_NoPrime ?kX_NoRest ?qX_NoRest ?sX_NoRest ?tX_NoRest ?eX_NoRest ?c1_NoRest ?c2_NoRest ?c3_NoRest ?c4_NoRest ?c5_NoRest ?kX_NoRoot ?qX_NoRoot ?sX_NoRoot ?tX_NoRoot ?eX_NoRoot ?c1_NoRoot ?c2_NoRoot ?c3_NoRoot ?c4_NoRoot ?c5_NoRoot ?kX_NoRow ?qX_NoRow ?sX_NoRow ?tX_NoRow ?eX_NoRow ?c1_NoRow ?c2_NoRow ?c3_NoRow ?c4_NoRow ?c5_NoRow ?kX_SpinError ?qX_SpinError ?sX_SpinError ?tX_SpinError ?eX_SpinError ?c1_SpinError ?c2_SpinError ?c3_SpinError ?c4_SpinError ?c5_SpinError ?c6 ?c7 ?K_NoPrime_NoPrime ?K_NoPrime_NoRest ?K_NoPrime_NoRoot ?K_NoPrime_NoRow ?K_NoPrime_SpinError ?V_NoPrime ?K_NoRest_NoPrime ?K_NoRest_NoRest ?K_NoRest_NoRoot ?K_NoRest_NoRow ?K_NoRest_SpinError ?V_NoRest ?K_NoRoot_NoPrime ?K_NoRoot_NoRest ?K_NoRoot_NoRoot ?K_NoRoot_NoRow ?K_NoRoot_SpinError ?V_NoRoot ?K_NoRow_NoPrime ?K_NoRow_NoRest ?K_NoRow_NoRoot ?K_NoRow_NoRow ?K_NoRow_SpinError ?V_NoRow ?z_ValueError ?z_abs ?z_isinstance ?z_len ?z_list ?z_range ?z_set ?v_GREATEST ?v_MOST_POINTS ?a_PRIMES ?l_PRIMES
    (case aC => k_is)
    (case a_l_cell_at => k_is)
    (case l_l_cell_at => k_is)
    (case c_l_cell_at => k_is)
    (case k_l_cell_at => k_is)
    (case a_l_order => k_is)
    (case l_l_order => k_is)
    (case c_l_order => k_is)
    (case k_l_order => k_is)
    (case a_is_prime => k_is)
    (case l_is_prime => k_is)
    (case c_is_prime => k_is)
    (case k_is_prime => k_is)
    (case a_m_init => k_is)
    (case i_m_init => k_is)
    (case l_m_init => k_is)
    (case c_m_init => k_is)
    (case k_m_init => k_is)
    (case a_m_ask => k_is)
    (case i_m_ask => k_is)
    (case l_m_ask => k_is)
    (case c_m_ask => k_is)
    (case k_m_ask => k_is)
    (case a_ask_row => k_is)
    (case l_ask_row => k_is)
    (case c_ask_row => k_is)
    (case k_ask_row => k_is)
    (case a_m_order => k_is)
    (case i_m_order => k_is)
    (case l_m_order => k_is)
    (case c_m_order => k_is)
    (case k_m_order => k_is)
    (case a_ask_all => k_is)
    (case l_ask_all => k_is)
    (case c_ask_all => k_is)
    (case k_ask_all => k_is)
    (case a_turned => k_is)
    (case l_turned => k_is)
    (case c_turned => k_is)
    (case k_turned => k_is)
    (case a_turned_back => k_is)
    (case l_turned_back => k_is)
    (case c_turned_back => k_is)
    (case k_turned_back => k_is)
    (case a_l_no_root => k_is)
    (case l_l_no_root => k_is)
    (case c_l_no_root => k_is)
    (case k_l_no_root => k_is)
    (case a_ask_figures => k_is)
    (case l_ask_figures => k_is)
    (case c_ask_figures => k_is)
    (case k_ask_figures => k_is)
    (case a_long_product => k_is)
    (case l_long_product => k_is)
    (case c_long_product => k_is)
    (case k_long_product => k_is)
    (case a_ask_both => k_is)
    (case l_ask_both => k_is)
    (case c_ask_both => k_is)
    (case k_ask_both => k_is)
    (case a_plain_product => k_is)
    (case l_plain_product => k_is)
    (case c_plain_product => k_is)
    (case k_plain_product => k_is)
    (case a_ring_product => k_is)
    (case l_ring_product => k_is)
    (case c_ring_product => k_is)
    (case k_ring_product => k_is)
    (case a_l_two => k_is)
    (case l_l_two => k_is)
    (case c_l_two => k_is)
    (case k_l_two => k_is)
    (case a_row_through => k_is)
    (case l_row_through => k_is)
    (case c_row_through => k_is)
    (case k_row_through => k_is)
    (case a_worth_at => k_is)
    (case l_worth_at => k_is)
    (case c_worth_at => k_is)
    (case k_worth_at => k_is)
    (case a_l_no_row => k_is)
    (case l_l_no_row => k_is)
    (case c_l_no_row => k_is)
    (case k_l_no_row => k_is)
    (case a_m_inverse => k_is)
    (case i_m_inverse => k_is)
    (case l_m_inverse => k_is)
    (case c_m_inverse => k_is)
    (case k_m_inverse => k_is)
    (case a_m_plus => k_is)
    (case i_m_plus => k_is)
    (case l_m_plus => k_is)
    (case c_m_plus => k_is)
    (case k_m_plus => k_is)
    (case a_m_power => k_is)
    (case i_m_power => k_is)
    (case l_m_power => k_is)
    (case c_m_power => k_is)
    (case k_m_power => k_is)
    (case a_m_times => k_is)
    (case i_m_times => k_is)
    (case l_m_times => k_is)
    (case c_m_times => k_is)
    (case k_m_times => k_is)
    (case a_l_one_rest => k_is)
    (case l_l_one_rest => k_is)
    (case c_l_one_rest => k_is)
    (case k_l_one_rest => k_is)
    (case a_l_row_rest => k_is)
    (case l_l_row_rest => k_is)
    (case c_l_row_rest => k_is)
    (case k_l_row_rest => k_is)
    (case a_l_which => k_is)
    (case l_l_which => k_is)
    (case c_l_which => k_is)
    (case k_l_which => k_is)
    (case a_law => k_is)
    (case l_law => k_is)
    (case c_law => k_is)
    (case k_law => k_is)
    (case pgC => k_is)
    (case hdC => k_is)
    (case poC => k_is)
    (case saC => k_is)
    (case npC => k_is)
    (case mkC => k_is)
    (case kcC => k_is)
    (case aX_NoPrime => k_is)
    (case aX_NoRest => k_is)
    (case aX_NoRoot => k_is)
    (case aX_NoRow => k_is)
    (case aX_SpinError => k_is)
    (case kX_NoPrime => k_is)
    (case qX_NoPrime => k_exc)
    (case sX_NoPrime => k_is)
    (case tX_NoPrime => k_is)
    (case eX_NoPrime => kts_exm)
    (case c1_NoPrime => k_is)
    (case c2_NoPrime => k_is)
    (case c3_NoPrime => k_is)
    (case c4_NoPrime => k_is)
    (case c5_NoPrime => k_is)
    (case kX_NoRest => k_is)
    (case qX_NoRest => k_exc)
    (case sX_NoRest => k_is)
    (case tX_NoRest => k_is)
    (case eX_NoRest => kts_exm)
    (case c1_NoRest => k_is)
    (case c2_NoRest => k_is)
    (case c3_NoRest => k_is)
    (case c4_NoRest => k_is)
    (case c5_NoRest => k_is)
    (case kX_NoRoot => k_is)
    (case qX_NoRoot => k_exc)
    (case sX_NoRoot => k_is)
    (case tX_NoRoot => k_is)
    (case eX_NoRoot => kts_exm)
    (case c1_NoRoot => k_is)
    (case c2_NoRoot => k_is)
    (case c3_NoRoot => k_is)
    (case c4_NoRoot => k_is)
    (case c5_NoRoot => k_is)
    (case kX_NoRow => k_is)
    (case qX_NoRow => k_exc)
    (case sX_NoRow => k_is)
    (case tX_NoRow => k_is)
    (case eX_NoRow => kts_exm)
    (case c1_NoRow => k_is)
    (case c2_NoRow => k_is)
    (case c3_NoRow => k_is)
    (case c4_NoRow => k_is)
    (case c5_NoRow => k_is)
    (case kX_SpinError => k_is)
    (case qX_SpinError => k_exc)
    (case sX_SpinError => k_is)
    (case tX_SpinError => k_is)
    (case eX_SpinError => kts_exm)
    (case c1_SpinError => k_is)
    (case c2_SpinError => k_is)
    (case c3_SpinError => k_is)
    (case c4_SpinError => k_is)
    (case c5_SpinError => k_is)
    (case c6 => k_is)
    (case c7 => k_is)
    (case K_NoPrime_NoPrime => kit_is)
    (case K_NoPrime_NoRest => kit_is)
    (case K_NoPrime_NoRoot => kit_is)
    (case K_NoPrime_NoRow => kit_is)
    (case K_NoPrime_SpinError => kit_is)
    (case V_NoPrime => kit_is)
    (case K_NoRest_NoPrime => kit_is)
    (case K_NoRest_NoRest => kit_is)
    (case K_NoRest_NoRoot => kit_is)
    (case K_NoRest_NoRow => kit_is)
    (case K_NoRest_SpinError => kit_is)
    (case V_NoRest => kit_is)
    (case K_NoRoot_NoPrime => kit_is)
    (case K_NoRoot_NoRest => kit_is)
    (case K_NoRoot_NoRoot => kit_is)
    (case K_NoRoot_NoRow => kit_is)
    (case K_NoRoot_SpinError => kit_is)
    (case V_NoRoot => kit_is)
    (case K_NoRow_NoPrime => kit_is)
    (case K_NoRow_NoRest => kit_is)
    (case K_NoRow_NoRoot => kit_is)
    (case K_NoRow_NoRow => kit_is)
    (case K_NoRow_SpinError => kit_is)
    (case V_NoRow => kit_is)
    (case z_ValueError => k_is)
    (case z_abs => k_is)
    (case z_isinstance => k_is)
    (case z_len => k_is)
    (case z_list => k_is)
    (case z_range => k_is)
    (case z_set => k_is)
    (case v_GREATEST => k_is)
    (case v_MOST_POINTS => k_is)
    (case a_PRIMES => k_is)
    (case l_PRIMES => k_is)
