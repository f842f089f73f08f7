import PyProof.Rows.All
import Wide.All
import OpenK.AllK
import Wide.FinOn
import HandS.ForMost
import HandS.Wide
import HandS.IsInst
import HandS.Style
import HandS.Codes
import PySem.Challenge.RW_primepapers_k04_whole_rests
set_option Elab.async false
set_option linter.all false
set_option maxRecDepth 100000
set_option maxHeartbeats 8000000
namespace K04
/-! ### powers by a number -/
theorem emm (a n : Int) : a % n % n = a % n := Int.emod_emod_of_dvd _ (Int.dvd_refl n)
theorem emod_pow (a n : Int) (k : Nat) : (a % n) ^ k % n = a ^ k % n := by
  induction k with
  | zero => rw [Int.pow_zero, Int.pow_zero]
  | succ k ih => rw [Int.pow_succ, Int.pow_succ, Int.mul_emod, ih, emm, ← Int.mul_emod]
/-- the rest by n of a to the k -/
def pw (a : Int) (k : Nat) (n : Int) : Int := a ^ k % n
theorem pw_nonneg {a n : Int} {k : Nat} (h : 1 ≤ n) : 0 ≤ pw a k n := Int.emod_nonneg _ (by omega)
theorem pw_lt {a n : Int} {k : Nat} (h : 1 ≤ n) : pw a k n < n := Int.emod_lt_of_pos _ (by omega)
theorem pow_odd (f s n : Int) (k : Nat) : ((f * s % n) * ((s * s % n) ^ k)) % n = f * s ^ (2 * k + 1) % n := by
  rw [Int.mul_emod, emod_pow, emm, ← Int.mul_emod]
  congr 1
  rw [Int.pow_succ, Int.pow_mul]
  grind
theorem pow_even (f s n : Int) (k : Nat) : (f * ((s * s % n) ^ k)) % n = f * s ^ (2 * k) % n := by
  rw [Int.mul_emod, emod_pow, ← Int.mul_emod]
  congr 1
  rw [Int.pow_mul]
  grind
theorem pow_start (b n : Int) (k : Nat) : ((1 % n) * ((b % n) ^ k)) % n = pw b k n := by
  unfold pw
  rw [Int.mul_emod, emod_pow, emm, ← Int.mul_emod, Int.one_mul]
theorem pow_end {f s n : Int} (h0 : 0 ≤ f) (h1 : f < n) : (f * s ^ 0) % n = f := by
  rw [Int.pow_zero, Int.mul_one, Int.emod_eq_of_lt h0 h1]
/-- powers of two numbers how often, multiplied -/
theorem pw_add (a n : Int) (k l : Nat) : pw a k n * pw a l n % n = pw a (k + l) n := by
  unfold pw
  rw [← Int.mul_emod, Int.pow_add]
theorem pw_mul (a b n : Int) (k : Nat) : pw (a * b) k n = pw a k n * pw b k n % n := by
  unfold pw
  rw [← Int.mul_emod, Int.mul_pow]
theorem pw_pw (a n : Int) (k l : Nat) : pw (pw a k n) l n = pw a (k * l) n := by
  unfold pw
  rw [emod_pow, Int.pow_mul]
theorem pw_comm (a n : Int) (k l : Nat) : pw (pw a k n) l n = pw (pw a l n) k n := by
  rw [pw_pw, pw_pw, Nat.mul_comm]
/-! ### what undoes -/
/-- x undoes a by n -/
structure Und (a n x : Int) : Prop where
  nn : 0 ≤ x
  lt : x < n
  one : a * x % n = 1 % n
theorem Und.uniq {a n x y : Int} (h1 : Und a n x) (h2 : Und a n y) : x = y := by
  have e : x % n = y % n := by
    have s1 : x * (a * y) % n = x % n := by rw [Int.mul_emod, h2.one, ← Int.mul_emod, Int.mul_one]
    have s2 : y * (a * x) % n = y % n := by rw [Int.mul_emod, h1.one, ← Int.mul_emod, Int.mul_one]
    rw [← s1, ← s2]
    congr 1
    grind
  rw [Int.emod_eq_of_lt h1.nn h1.lt, Int.emod_eq_of_lt h2.nn h2.lt] at e
  exact e
theorem Und.gcd {a n x : Int} (h : a * x % n = 1 % n) : Int.gcd a n = 1 := by
  have d1 : ((Int.gcd a n : Nat) : Int) ∣ a := Int.gcd_dvd_left ..
  have d2 : ((Int.gcd a n : Nat) : Int) ∣ n := Int.gcd_dvd_right ..
  have d3 : n ∣ a * x - 1 := Int.dvd_of_emod_eq_zero (Int.emod_eq_emod_iff_emod_sub_eq_zero.mp h)
  have d4 : ((Int.gcd a n : Nat) : Int) ∣ 1 := by
    have q := Int.dvd_sub (Int.dvd_trans d1 (Int.dvd_mul_right a x)) (Int.dvd_trans d2 d3)
    have e : a * x - (a * x - 1) = 1 := by omega
    rw [e] at q
    exact q
  have d5 : Int.gcd a n ∣ 1 := Int.ofNat_dvd.mp d4
  exact Nat.dvd_one.mp d5
theorem Und.pow {a n x : Int} (k : Nat) (hn : 1 ≤ n) (h : a * x % n = 1 % n) : Und (pw a k n) n (pw x k n) := by
  refine ⟨pw_nonneg hn, pw_lt hn, ?_⟩
  rw [← pw_mul]
  unfold pw
  rw [← emod_pow, h, emod_pow, Int.one_pow]
/-! ### the greatest that goes into both -/
theorem gcd_turn {x y : Int} : Int.gcd y (x % y) = Int.gcd x y := by
  rw [Int.emod_def, Int.gcd_sub_mul_left_right, Int.gcd_comm]
theorem gcd_end {x : Int} (h : 0 ≤ x) : ((Int.gcd x 0 : Nat) : Int) = x := by
  rw [Int.gcd_zero_right]
  omega
/-! ### the long way of Euclid -/
structure Euc (a n one other first second : Int) : Prop where
  p1 : 1 ≤ one
  p2 : 0 ≤ other
  g : Int.gcd one other = Int.gcd a n
  f : n ∣ first * a - one
  s : n ∣ second * a - other
  le : one ≤ n
  le2 : other ≤ n
  bd : ∃ A B : Int, first.natAbs ≤ A ∧ second.natAbs ≤ B ∧ A * other + B * one = n ∧ A ≤ n
theorem euc_start {a n : Int} (h : 1 ≤ n) : Euc a n n (a % n) 0 1 := by
  have h0 := Int.emod_nonneg a (show n ≠ 0 by omega)
  have h1 := Int.emod_lt_of_pos a (show 0 < n by omega)
  refine ⟨h, h0, gcd_turn, ?_, ?_, Int.le_refl _, by omega, 0, 1, by simp, by simp, by omega, by omega⟩
  · exact ⟨-1, by omega⟩
  · rw [Int.one_mul]
    exact ⟨a / n, by have := Int.emod_add_mul_ediv a n; omega⟩
theorem Euc.secondLe {a n one other first second : Int} (E : Euc a n one other first second) : second.natAbs ≤ n ∧ first.natAbs ≤ n := by
  obtain ⟨A, B, hA, hB, e, hn⟩ := E.bd
  have h1 := E.p1
  have h2 := E.p2
  have z1 : 0 ≤ A * other := Int.mul_nonneg (by omega) h2
  have z2 : B * 1 ≤ B * one := Int.mul_le_mul_of_nonneg_left h1 (by omega)
  omega
theorem Euc.turn {a n one other first second : Int} (E : Euc a n one other first second) (h : 0 < other) :
    Euc a n other (one - one / other * other) second (first - one / other * second) := by
  obtain ⟨A, B, hA, hB, e, hn⟩ := E.bd
  have h1 := E.p1
  have em : one - one / other * other = one % other := by
    have := Int.emod_add_mul_ediv one other
    rw [Int.mul_comm] at this
    omega
  have r0 := Int.emod_nonneg one (show other ≠ 0 by omega)
  have r1 := Int.emod_lt_of_pos one h
  have q0 : 0 ≤ one / other := Int.ediv_nonneg (by omega) (by omega)
  have l := E.le2
  have sl := E.secondLe
  refine ⟨by omega, by omega, ?_, E.s, ?_, by omega, by omega, B, A + one / other * B, hB, ?_, ?_, ?_⟩
  · rw [em, gcd_turn]
    exact E.g
  · obtain ⟨u, hu⟩ := E.f
    obtain ⟨v, hv⟩ := E.s
    exact ⟨u - one / other * v, by grind⟩
  · generalize one / other = q at *
    have z : ((q * second).natAbs : Int) ≤ q * B := by
      rw [Int.natAbs_mul]
      have y : ((q.natAbs : Nat) : Int) = q := by omega
      rw [Int.natCast_mul, y]
      exact Int.mul_le_mul_of_nonneg_left hB q0
    omega
  · generalize one / other = q at *
    grind
  · have z1 : 0 ≤ A * other := Int.mul_nonneg (by omega) (by omega)
    have z2 : B * 1 ≤ B * one := Int.mul_le_mul_of_nonneg_left h1 (by omega)
    omega
theorem Euc.und {a n one first second : Int} (E : Euc a n one 0 first second) (hn : 1 ≤ n) : (one = 1 → Int.gcd a n = 1 ∧ Und a n (first % n)) ∧ (one ≠ 1 → Int.gcd a n ≠ 1) := by
  have g : ((Int.gcd a n : Nat) : Int) = one := by
    rw [← E.g]
    exact gcd_end (by have := E.p1; omega)
  refine ⟨fun e => ⟨by omega, Int.emod_nonneg _ (by omega), Int.emod_lt_of_pos _ (by omega), ?_⟩, fun e => by omega⟩
  subst e
  have e1 : (first * a) % n = 1 % n := Int.emod_eq_emod_iff_emod_sub_eq_zero.mpr (Int.emod_eq_zero_of_dvd E.f)
  rw [Int.mul_emod, emm, ← Int.mul_emod, Int.mul_comm]
  exact e1
/-! ### primes -/
structure Pr (p : Int) : Prop where
  two : 2 ≤ p
  no : ∀ d : Int, 2 ≤ d → d < p → ¬ d ∣ p
/-- how many ways to take k of n -/
def ch : Nat → Nat → Nat
  | _, 0 => 1
  | 0, _ + 1 => 0
  | n + 1, k + 1 => ch n k + ch n (k + 1)
theorem ch_zero (n : Nat) : ch n 0 = 1 := by cases n <;> rfl
theorem ch_succ (n k : Nat) : ch (n + 1) (k + 1) = ch n k + ch n (k + 1) := rfl
theorem ch_over : ∀ (n k : Nat), n < k → ch n k = 0
  | 0, 0, h => by omega
  | 0, _ + 1, _ => rfl
  | n + 1, 0, h => by omega
  | n + 1, k + 1, h => by rw [ch_succ, ch_over n k (by omega), ch_over n (k + 1) (by omega)]
theorem ch_self : ∀ n : Nat, ch n n = 1
  | 0 => rfl
  | n + 1 => by rw [ch_succ, ch_self n, ch_over n (n + 1) (by omega)]
theorem ch_abs : ∀ n k : Nat, (n + 1) * ch n k = (k + 1) * ch (n + 1) (k + 1)
  | 0, 0 => rfl
  | 0, k + 1 => by rw [ch_succ, ch_over 0 (k + 1) (by omega), ch_over 0 (k + 2) (by omega)]; simp
  | n + 1, 0 => by
    have ih := ch_abs n 0
    rw [ch_succ (n + 1) 0, ch_zero, ch_succ n 0, ch_zero]
    rw [ch_succ n 0, ch_zero] at ih
    grind
  | n + 1, k + 1 => by
    have i1 := ch_abs n k
    have i2 := ch_abs n (k + 1)
    rw [ch_succ (n + 1) (k + 1)]
    rw [ch_succ n k] at *
    grind
/-- the first m terms of (1 + x) ^ n -/
def S (n : Nat) (x : Nat) : Nat → Nat
  | 0 => 0
  | m + 1 => S n x m + ch n m * x ^ m
theorem S_step (n x : Nat) : ∀ m : Nat, S (n + 1) x (m + 1) = S n x (m + 1) + x * S n x m
  | 0 => by
    show 0 + ch (n + 1) 0 * x ^ 0 = (0 + ch n 0 * x ^ 0) + x * 0
    rw [ch_zero, ch_zero]
    simp
  | m + 1 => by
    have ih := S_step n x m
    show S (n + 1) x (m + 1) + ch (n + 1) (m + 1) * x ^ (m + 1) = (S n x (m + 1) + ch n (m + 1) * x ^ (m + 1)) + x * (S n x m + ch n m * x ^ m)
    rw [ih, ch_succ, Nat.pow_succ]
    grind
theorem S_all (x : Nat) : ∀ n : Nat, S n x (n + 1) = (1 + x) ^ n
  | 0 => by
    show 0 + ch 0 0 * x ^ 0 = (1 + x) ^ 0
    simp [ch]
  | n + 1 => by
    have ih := S_all x n
    rw [S_step]
    show (S n x (n + 1) + ch n (n + 1) * x ^ (n + 1)) + x * S n x (n + 1) = (1 + x) ^ (n + 1)
    rw [ch_over n (n + 1) (by omega), ih, Nat.pow_succ]
    grind
structure NPr (p : Nat) : Prop where
  two : 2 ≤ p
  no : ∀ d : Nat, 2 ≤ d → d < p → ¬ d ∣ p
theorem NPr.cop {p k : Nat} (h : NPr p) (h0 : 0 < k) (hk : k < p) : Nat.Coprime p k := by
  have d1 := Nat.gcd_dvd_left p k
  have d2 := Nat.gcd_dvd_right p k
  have l := Nat.le_of_dvd h0 d2
  have z := Nat.gcd_pos_of_pos_right p h0
  unfold Nat.Coprime
  by_cases e : 2 ≤ Nat.gcd p k
  · exact absurd d1 (h.no _ e (by omega))
  · omega
theorem NPr.ch {p k : Nat} (h : NPr p) (h0 : 0 < k) (hk : k < p) : p ∣ K04.ch p k := by
  have hp := h.two
  obtain ⟨n, rfl⟩ : ∃ n, p = n + 1 := ⟨p - 1, by omega⟩
  obtain ⟨j, rfl⟩ : ∃ j, k = j + 1 := ⟨k - 1, by omega⟩
  have e := ch_abs n j
  exact Nat.Coprime.dvd_of_dvd_mul_left (h.cop h0 hk) ⟨_, e.symm⟩
theorem S_mid {p : Nat} (h : NPr p) (x : Nat) : ∀ m : Nat, m < p → S p x (m + 1) % p = 1
  | 0, _ => by
    show (0 + K04.ch p 0 * x ^ 0) % p = 1
    rw [ch_zero, Nat.pow_zero, Nat.zero_add, Nat.one_mul]
    exact Nat.mod_eq_of_lt (by have := h.two; omega)
  | m + 1, hm => by
    have ih := S_mid h x m (by omega)
    show (S p x (m + 1) + K04.ch p (m + 1) * x ^ (m + 1)) % p = 1
    have d : p ∣ K04.ch p (m + 1) * x ^ (m + 1) := Nat.dvd_trans (h.ch (by omega) hm) (Nat.dvd_mul_right ..)
    rw [Nat.add_mod, Nat.mod_eq_zero_of_dvd d, Nat.add_zero, Nat.mod_mod, ih]
theorem fermat {p : Nat} (h : NPr p) : ∀ x : Nat, x ^ p % p = x % p
  | 0 => by rw [Nat.zero_pow (by have := h.two; omega)]
  | x + 1 => by
    have ih := fermat h x
    have hp := h.two
    obtain ⟨q, hq⟩ : ∃ q, p = q + 1 := ⟨p - 1, by omega⟩
    have m := S_mid h x q (by omega)
    rw [Nat.add_comm x 1, ← S_all x p]
    show (S p x p + K04.ch p p * x ^ p) % p = (1 + x) % p
    rw [← hq] at m
    have o : 1 % p = 1 := Nat.mod_eq_of_lt (by omega)
    rw [ch_self, Nat.one_mul, Nat.add_mod, ih, m, Nat.add_mod 1 x, o]
theorem Pr.nat {p : Int} (h : Pr p) : NPr p.toNat := by
  have h2 := h.two
  refine ⟨by omega, fun d d1 d2 hd => h.no d (by omega) (by omega) ?_⟩
  have e : p = (p.toNat : Int) := by omega
  rw [e]
  exact Int.ofNat_dvd.mpr hd
theorem pw_prime {a p : Int} (h : Pr p) : pw a p.toNat p = a % p := by
  have h2 := h.two
  have e : p = (p.toNat : Int) := by omega
  have r0 := Int.emod_nonneg a (show p ≠ 0 by omega)
  have f := fermat h.nat (a % p).toNat
  have e2 : (((a % p).toNat : Nat) : Int) = a % p := by omega
  unfold pw
  rw [← emod_pow, ← e2]
  have g : (((((a % p).toNat ^ p.toNat) % p.toNat : Nat)) : Int) = ((((a % p).toNat % p.toNat : Nat)) : Int) := by rw [f]
  rw [Int.natCast_emod, Int.natCast_emod, Int.natCast_pow, ← e, e2, emm] at g
  rw [e2]
  exact g
/-! ### the parts of a number -/
/-- all parts multiplied -/
def prod : List (Int × Nat) → Int
  | [] => 1
  | x :: r => x.1 ^ x.2 * prod r
theorem prod_app : ∀ (L M : List (Int × Nat)), prod (L ++ M) = prod L * prod M
  | [], M => by show prod M = 1 * prod M; omega
  | x :: r, M => by
    show x.1 ^ x.2 * prod (r ++ M) = x.1 ^ x.2 * prod r * prod M
    rw [prod_app r M, Int.mul_assoc]
theorem prod_one (p : Int) (e : Nat) : prod [(p, e)] = p ^ e := by
  show p ^ e * 1 = p ^ e
  omega
/-- each a prime, at least once -/
def Each (L : List (Int × Nat)) : Prop := ∀ x ∈ L, Pr x.1 ∧ 1 ≤ x.2
theorem Each.tail {x : Int × Nat} {r : List (Int × Nat)} (h : Each (x :: r)) : Each r := fun y hy => h y (List.mem_cons_of_mem _ hy)
theorem pow_ge {p : Int} (h : 2 ≤ p) : ∀ e : Nat, 1 ≤ p ^ e ∧ (1 ≤ e → p ≤ p ^ e)
  | 0 => ⟨by rw [Int.pow_zero]; omega, fun z => by omega⟩
  | e + 1 => by
    have ih := (pow_ge h e).1
    have z : 1 * p ≤ p ^ e * p := Int.mul_le_mul_of_nonneg_right ih (by omega)
    rw [Int.pow_succ]
    exact ⟨by omega, fun _ => by omega⟩
theorem prod_ge : ∀ L : List (Int × Nat), Each L → ((2 ^ L.length : Nat) : Int) ≤ prod L
  | [], _ => by show (1 : Int) ≤ 1; omega
  | x :: r, h => by
    have ih := prod_ge r h.tail
    have hx := h x (List.mem_cons_self ..)
    have z := (pow_ge hx.1.two x.2).2 hx.2
    have z2 := hx.1.two
    have p0 : 0 < 2 ^ r.length := Nat.pow_pos (by omega)
    show ((2 ^ (r.length + 1) : Nat) : Int) ≤ x.1 ^ x.2 * prod r
    rw [Nat.pow_succ]
    have y : 2 * prod r ≤ x.1 ^ x.2 * prod r := Int.mul_le_mul_of_nonneg_right (by omega) (by omega)
    omega
theorem Each.pos {L : List (Int × Nat)} (h : Each L) : 1 ≤ prod L := by
  have := prod_ge L h
  have p0 : 0 < 2 ^ L.length := Nat.pow_pos (by omega)
  omega
theorem Each.len {L : List (Int × Nat)} (h : Each L) (l : prod L ≤ 1073741824) : L.length ≤ 30 := by
  have q := prod_ge L h
  by_cases z : L.length ≤ 30
  · exact z
  · have y : 2 ^ 31 ≤ 2 ^ L.length := Nat.pow_le_pow_right (by omega) (by omega)
    omega
theorem Each.app {L M : List (Int × Nat)} (h1 : Each L) (h2 : Each M) : Each (L ++ M) := fun x hx => by
  rcases List.mem_append.mp hx with q | q
  · exact h1 x q
  · exact h2 x q
theorem Each.one {p : Int} {e : Nat} (h : Pr p) (he : 1 ≤ e) : Each [(p, e)] := fun x hx => by
  rw [List.mem_singleton] at hx
  subst hx
  exact ⟨h, he⟩
/-- the parts of n -/
structure Parts (n : Int) (L : List (Int × Nat)) : Prop where
  each : Each L
  all : prod L = n
theorem Parts.len {n : Int} {L : List (Int × Nat)} (h : Parts n L) (l : n ≤ 1073741824) : L.length ≤ 30 := h.each.len (by rw [h.all]; exact l)
theorem Parts.prime {n : Int} {L : List (Int × Nat)} (h : Parts n L) (hn : 2 ≤ n) : L = [(n, 1)] ↔ Pr n := by
  refine ⟨fun e => ?_, fun hp => ?_⟩
  · have q := (h.each (n, 1) (by rw [e]; exact List.mem_singleton.mpr rfl)).1
    exact q
  · match L, h with
    | [], h =>
      have a : (1 : Int) = n := h.all
      omega
    | (q, e) :: r, h =>
      have a : q ^ e * prod r = n := h.all
      have hx := h.each (q, e) (List.mem_cons_self ..)
      have hq : 2 ≤ q := hx.1.two
      have he : 1 ≤ e := hx.2
      have r1 := h.each.tail.pos
      obtain ⟨k, rfl⟩ : ∃ k, e = k + 1 := ⟨e - 1, by omega⟩
      have k1 := (pow_ge hq k).1
      rw [Int.pow_succ] at a
      have t1 : 1 * 1 ≤ q ^ k * prod r := by
        have := Int.mul_le_mul k1 r1 (by omega) (by omega)
        exact this
      have a2 : q * (q ^ k * prod r) = n := by grind
      have ql : q * 1 ≤ q * (q ^ k * prod r) := Int.mul_le_mul_of_nonneg_left t1 (by omega)
      have qn : q = n := by
        by_cases z : q < n
        · exact absurd ⟨_, a2.symm⟩ (hp.no q hq z)
        · omega
      subst qn
      have o : q ^ k * prod r = 1 := by
        by_cases z : 2 ≤ q ^ k * prod r
        · have := Int.mul_le_mul_of_nonneg_left z (show 0 ≤ q by omega)
          omega
        · omega
      have ok : q ^ k = 1 := by
        by_cases z : 2 ≤ q ^ k
        · have := Int.mul_le_mul z r1 (by omega) (by omega)
          omega
        · omega
      have or' : prod r = 1 := by
        rw [ok] at o
        omega
      have k0 : k = 0 := by
        by_cases z : 1 ≤ k
        · have := (pow_ge hq k).2 z
          omega
        · omega
      have r0 : r = [] := by
        cases r with
        | nil => rfl
        | cons x r =>
          have z := prod_ge (x :: r) h.each.tail
          have p0 : 0 < 2 ^ r.length := Nat.pow_pos (by omega)
          rw [List.length_cons, Nat.pow_succ] at z
          omega
      rw [k0, r0]
/-- how far the parts of n are found: those ahead of p, what is left -/
structure Pt (n : Int) (L : List (Int × Nat)) (left p : Int) : Prop where
  l1 : 1 ≤ left
  p2 : 2 ≤ p
  each : Each L
  all : prod L * left = n
  no : ∀ d : Int, 2 ≤ d → d < p → ¬ d ∣ left
theorem Pt.start {n : Int} (h : 1 ≤ n) : Pt n [] n 2 := ⟨h, by omega, (fun x hx => by cases hx), (by show 1 * n = n; omega), (fun d d1 d2 => by omega)⟩
theorem Pt.leftLe {n left p : Int} {L : List (Int × Nat)} (h : Pt n L left p) : left ≤ n := by
  have a := h.each.pos
  have := Int.mul_le_mul_of_nonneg_right a (show 0 ≤ left by have := h.l1; omega)
  have := h.all
  omega
theorem Pt.lenLe {n left p : Int} {L : List (Int × Nat)} (h : Pt n L left p) (l : n ≤ 1073741824) : L.length ≤ 30 := by
  refine h.each.len ?_
  have a := h.each.pos
  have := Int.mul_le_mul_of_nonneg_left h.l1 (show 0 ≤ prod L by omega)
  have := h.all
  omega
theorem Pt.pLe {n left p : Int} {L : List (Int × Nat)} (h : Pt n L left p) (h1 : 1 < left) : p ≤ left := by
  by_cases z : p ≤ left
  · exact z
  · exact absurd (Int.dvd_refl left) (h.no left (by omega) (by omega))
theorem Pt.sqLe {p left : Int} (h2 : 2 ≤ p) (h : p * p ≤ left) : p ≤ left := by
  have := Int.mul_le_mul_of_nonneg_left h2 (show 0 ≤ p by omega)
  omega
theorem Pt.last {n left p : Int} {L : List (Int × Nat)} (h : Pt n L left p) (h1 : 1 < left) (hs : left < p * p) : Pr left := by
  refine ⟨by omega, fun d d1 d2 hd => ?_⟩
  obtain ⟨c, hc⟩ := hd
  have c2 : 2 ≤ c := by
    by_cases z : 2 ≤ c
    · exact z
    · by_cases y : c = 1
      · subst y
        omega
      · have := Int.mul_le_mul_of_nonneg_left (show c ≤ 0 by omega) (show 0 ≤ d by omega)
        omega
  by_cases dp : d < p
  · exact h.no d d1 dp ⟨c, hc⟩
  · by_cases cp : c < p
    · exact h.no c c2 cp ⟨d, by rw [hc, Int.mul_comm]⟩
    · have := Int.mul_le_mul (show p ≤ d by omega) (show p ≤ c by omega) (show 0 ≤ p by have := h.p2; omega) (by omega)
      omega
/-- in the inner loop: p was taken e times from what was left -/
structure Pin (left0 p left : Int) (e : Nat) : Prop where
  l1 : 1 ≤ left
  all : left * p ^ e = left0
theorem Pin.start {left p : Int} (h : 1 ≤ left) : Pin left p left 0 := ⟨h, by rw [Int.pow_zero]; omega⟩
theorem Pin.turn {left0 p left : Int} {e : Nat} (h : Pin left0 p left e) (hp : 2 ≤ p) (hd : left % p = 0) : Pin left0 p (left / p) (e + 1) ∧ left / p < left := by
  have q := Int.emod_add_mul_ediv left p
  have l1 := h.l1
  rw [hd] at q
  have g1 : 1 ≤ left / p := by
    by_cases z : 1 ≤ left / p
    · exact z
    · have := Int.mul_le_mul_of_nonneg_left (show left / p ≤ 0 by omega) (show 0 ≤ p by omega)
      omega
  have g2 := Int.mul_le_mul_of_nonneg_right hp (show 0 ≤ left / p by omega)
  refine ⟨⟨g1, ?_⟩, by omega⟩
  have a := h.all
  rw [Int.pow_succ]
  generalize left / p = c at *
  have b : left = p * c := by omega
  rw [b] at a
  rw [← a]
  grind
theorem Pin.leftLe {left0 p left : Int} {e : Nat} (h : Pin left0 p left e) (hp : 2 ≤ p) : left ≤ left0 := by
  have a := (pow_ge hp e).1
  have := Int.mul_le_mul_of_nonneg_left a (show 0 ≤ left by have := h.l1; omega)
  have := h.all
  omega
theorem Pin.eLe {left0 p left : Int} {e : Nat} (h : Pin left0 p left e) (hp : 2 ≤ p) (l : left0 ≤ 1073741824) : e ≤ 30 := by
  have l1 := h.l1
  have a := (pow_ge hp e).1
  have b := Int.mul_le_mul_of_nonneg_right l1 (show 0 ≤ p ^ e by omega)
  have := h.all
  have g : Each (List.replicate e ((2 : Int), 1)) := fun x hx => by
    have := (List.mem_replicate.mp hx).2
    subst this
    exact ⟨⟨by omega, fun d d1 d2 => by omega⟩, by omega⟩
  have z : ∀ k : Nat, ((2 ^ k : Nat) : Int) ≤ p ^ k := fun k => by
    induction k with
    | zero => simp
    | succ k ih =>
      rw [Int.pow_succ, Nat.pow_succ]
      have := Int.mul_le_mul ih hp (by omega) (by have := (pow_ge hp k).1; omega)
      omega
  have y := z e
  by_cases q : e ≤ 30
  · exact q
  · have y : 2 ^ 31 ≤ 2 ^ e := Nat.pow_le_pow_right (by omega) (by omega)
    omega
theorem Pt.turn0 {n left p left' : Int} {L : List (Int × Nat)} (h : Pt n L left p) (i : Pin left p left' 0) (hd : left' % p ≠ 0) : Pt n L left' (p + 1) := by
  have e : left' = left := by
    have := i.all
    rw [Int.pow_zero] at this
    omega
  subst e
  refine ⟨i.l1, by have := h.p2; omega, h.each, h.all, fun d d1 d2 hh => ?_⟩
  by_cases z : d < p
  · exact h.no d d1 z hh
  · have : d = p := by omega
    subst this
    exact hd (Int.emod_eq_zero_of_dvd hh)
theorem Pt.turn1 {n left p left' : Int} {e : Nat} {L : List (Int × Nat)} (h : Pt n L left p) (i : Pin left p left' e) (he : 1 ≤ e) (hd : left' % p ≠ 0) : Pt n (L ++ [(p, e)]) left' (p + 1) := by
  have d0 : left' ∣ left := ⟨p ^ e, i.all.symm⟩
  have dp : p ∣ left := by
    obtain ⟨k, rfl⟩ : ∃ k, e = k + 1 := ⟨e - 1, by omega⟩
    have a := i.all
    rw [Int.pow_succ] at a
    exact ⟨left' * p ^ k, by grind⟩
  have hp : Pr p := ⟨h.p2, fun d d1 d2 hh => h.no d d1 d2 (Int.dvd_trans hh dp)⟩
  refine ⟨i.l1, by have := h.p2; omega, h.each.app (.one hp he), ?_, fun d d1 d2 hh => ?_⟩
  · rw [prod_app, prod_one, ← h.all, ← i.all]
    grind
  · by_cases z : d < p
    · exact h.no d d1 z (Int.dvd_trans hh d0)
    · have : d = p := by omega
      subst this
      exact hd (Int.emod_eq_zero_of_dvd hh)
theorem Pt.done1 {n p : Int} {L : List (Int × Nat)} (h : Pt n L 1 p) : Parts n L := ⟨h.each, by have := h.all; omega⟩
theorem Pt.done2 {n left p : Int} {L : List (Int × Nat)} (h : Pt n L left p) (h1 : 1 < left) (hs : left < p * p) : Parts n (L ++ [(left, 1)]) :=
  ⟨h.each.app (.one (h.last h1 hs) (by omega)), by rw [prod_app, prod_one, Int.pow_one]; exact h.all⟩
/-- the law's own way: the last one is what is left -/
theorem Pt.jump {n left p : Int} {L : List (Int × Nat)} (h : Pt n L left p) (h1 : 1 < left) (hs : left < p * p) : Pt n L left left :=
  ⟨h.l1, by omega, h.each, h.all, (h.last h1 hs).no⟩
/-- what a part of n is -/
theorem Parts.le {n : Int} {L : List (Int × Nat)} (h : Parts n L) : ∀ x ∈ L, x.1 ≤ n := fun x hx => by
  obtain ⟨A, B, rfl⟩ := List.append_of_mem hx
  have e := h.all
  have hA : Each A := fun y hy => h.each y (List.mem_append_left _ hy)
  have hB : Each B := fun y hy => h.each y (List.mem_append_right _ (List.mem_cons_of_mem _ hy))
  rw [prod_app] at e
  have q := h.each x hx
  have a1 := hA.pos
  have b1 := hB.pos
  have c1 := (pow_ge q.1.two x.2).2 q.2
  have c2 := q.1.two
  have z1 := Int.mul_le_mul_of_nonneg_left b1 (show 0 ≤ x.1 ^ x.2 by omega)
  have z2 := Int.mul_le_mul_of_nonneg_right a1 (show 0 ≤ x.1 ^ x.2 * prod B by omega)
  have e2 : prod A * (x.1 ^ x.2 * prod B) = n := e
  omega
/-- parts multiplied up to the i-th, and j times that one -/
theorem Parts.upTo {n : Int} {L : List (Int × Nat)} (h : Parts n L) {i : Nat} {x : Int × Nat} (hx : L[i]? = some x) {j : Nat} (hj : j ≤ x.2) :
    1 ≤ prod (L.take i) * x.1 ^ j ∧ prod (L.take i) * x.1 ^ j ≤ n := by
  have hm : x ∈ L := List.mem_of_getElem? hx
  have q := h.each x hm
  have a1 : 1 ≤ prod (L.take i) := Each.pos fun y hy => h.each y (List.mem_of_mem_take hy)
  have b1 : 1 ≤ prod (L.drop (i + 1)) := Each.pos fun y hy => h.each y (List.mem_of_mem_drop hy)
  have c1 := (pow_ge q.1.two j).1
  have c2 := (pow_ge q.1.two (x.2 - j)).1
  have e := h.all
  have el : L = L.take i ++ x :: L.drop (i + 1) := by
    obtain ⟨hi, hg⟩ := List.getElem?_eq_some_iff.mp hx
    rw [← hg, List.getElem_cons_drop, List.take_append_drop]
  rw [el, prod_app] at e
  have e2 : prod (L.take i) * (x.1 ^ x.2 * prod (L.drop (i + 1))) = n := e
  have e3 : x.1 ^ x.2 = x.1 ^ j * x.1 ^ (x.2 - j) := by
    rw [← Int.pow_add]
    congr 1
    omega
  have z1 := Int.mul_le_mul a1 c1 (by omega) (by omega)
  have z2 := Int.mul_le_mul c2 b1 (by omega) (by omega)
  have z3 := Int.mul_le_mul_of_nonneg_left z2 (show 0 ≤ prod (L.take i) * x.1 ^ j by omega)
  have e4 : prod (L.take i) * x.1 ^ j * (x.1 ^ (x.2 - j) * prod (L.drop (i + 1))) = n := by
    rw [← e2, e3]
    grind
  omega
theorem Parts.expLe {n : Int} {L : List (Int × Nat)} (h : Parts n L) (l : n ≤ 1073741824) {i : Nat} {x : Int × Nat} (hx : L[i]? = some x) : x.2 ≤ 30 := by
  have u := h.upTo hx (Nat.le_refl x.2)
  have q := h.each x (List.mem_of_getElem? hx)
  have a1 : 1 ≤ prod (L.take i) := Each.pos fun y hy => h.each y (List.mem_of_mem_take hy)
  have I : Pin (x.1 ^ x.2) x.1 1 x.2 := ⟨by omega, by omega⟩
  have c := (pow_ge q.1.two x.2).1
  have m := Int.mul_le_mul_of_nonneg_right a1 (show 0 ≤ x.1 ^ x.2 by omega)
  exact I.eLe q.1.two (by omega)
/-- the law's product of two: no greater than a far number -/
theorem far_mul {a b : Int} (h0 : -1000000000000000000000000000 ≤ a) (h1 : a ≤ 1000000000000000000000000000) (b0 : 0 ≤ b) (b1 : b < 1000) : -1000000000000000000000000000000 ≤ a * b ∧ a * b ≤ 1000000000000000000000000000000 := by
  have z1 := Int.mul_le_mul_of_nonneg_right h0 b0
  have z2 := Int.mul_le_mul_of_nonneg_right h1 b0
  omega
theorem prod_take {L : List (Int × Nat)} {i : Nat} {x : Int × Nat} (hx : L[i]? = some x) : prod (L.take (i + 1)) = prod (L.take i) * x.1 ^ x.2 := by
  rw [List.take_add_one, hx, prod_app]
  show prod (L.take i) * prod [x] = _
  rw [show x = (x.1, x.2) from rfl, prod_one]
theorem pr_far : Pr 1000003 := by
  have a : ∀ d : Nat, d < 1001 → 2 ≤ d → 1000003 % d ≠ 0 := by decide +kernel
  refine ⟨by omega, fun d d1 d2 hd => ?_⟩
  obtain ⟨c, hc⟩ := hd
  have c2 : 0 < c := by
    by_cases z : 0 < c
    · exact z
    · have := Int.mul_le_mul_of_nonneg_left (show c ≤ 0 by omega) (show 0 ≤ d by omega)
      omega
  have key : ∀ x y : Int, 2 ≤ x → (1000003 : Int) = x * y → ¬ x < 1001 := fun x y hx e hl => by
    have dv : x.toNat ∣ 1000003 := by
      have : ((x.toNat : Nat) : Int) ∣ ((1000003 : Nat) : Int) := ⟨y, by rw [show ((x.toNat : Nat) : Int) = x by omega]; exact e⟩
      exact Int.ofNat_dvd.mp this
    exact a x.toNat (by omega) (by omega) (Nat.mod_eq_zero_of_dvd dv)
  have k1 := key d c d1 hc
  have c3 : 2 ≤ c := by
    by_cases z : c = 1
    · subst z
      omega
    · omega
  have k2 := key c d c3 (by rw [hc, Int.mul_comm])
  have := Int.mul_le_mul (show (1001 : Int) ≤ d by omega) (show (1001 : Int) ≤ c by omega) (by omega) (by omega)
  omega
end K04
namespace K04
open PySem PySem.Spec PyProof.Rows L2
/-! ### the text by places -/
def topS (i : Nat) : Stmt := PySem.Challenge.pw_primepapers_k04_whole_rests.main.body.getD i (.Pass ⟨0, 0, 0, 0⟩)
abbrev sWhole : Stmt := topS 5
abbrev sBetween : Stmt := topS 6
abbrev sNeedB : Stmt := topS 7
abbrev sNeedN : Stmt := topS 8
abbrev sNeedF : Stmt := topS 9
abbrev sPower : Stmt := topS 10
abbrev sRaised : Stmt := topS 11
abbrev sCommon : Stmt := topS 12
abbrev sShared : Stmt := topS 13
abbrev sUndBy : Stmt := topS 14
abbrev sUndone : Stmt := topS 15
abbrev sPparts : Stmt := topS 18
abbrev sTold : Stmt := topS 19
abbrev sIsP : Stmt := topS 20
abbrev sPartsOf : Stmt := topS 21
abbrev sCell : Stmt := topS 23
abbrev sState : Stmt := topS 24
abbrev sTake : Stmt := topS 25
abbrev sFar : Stmt := topS 26
abbrev sNumber : Stmt := topS 27
abbrev sFarNum : Stmt := topS 28
abbrev sLParts : Stmt := topS 29
abbrev sLIsP : Stmt := topS 30
abbrev sLPrime : Stmt := topS 31
abbrev sLaw : Stmt := topS 32
/-! ### a def where it stands, a def that keeps its promise -/
structure At (K : PySem.W.Frag) (mg : Str → Option Value) (x : Str) (st : Stmt) (ps : List Str) : Prop where
  ex : ∃ (f : Addr) (fd : FuncData), Fun K x x st f fd ∧ Binds K fd ps [] ∧ mg x = some (.ref f)
structure Cl (P : Program) (w : World) (K : PySem.W.Frag) (mg : Str → Option Value) (base : Heap) (k : Nat) (x : Str) (ps : List Str) (sp : Sp) : Prop where
  ex : ∃ (f : Addr) (fd : FuncData), FnOk P w K mg base CX0 k f fd ps sp ∧ PySem.W.keepIn K (.ref f) = true ∧ Binds K fd ps [] ∧ mg x = some (.ref f)
theorem Cl.mono {P : Program} {w : World} {K : PySem.W.Frag} {mg : Str → Option Value} {base : Heap} {j k : Nat} {x : Str} {ps : List Str} {sp : Sp} (C : Cl P w K mg base j x ps sp) (h : j ≤ k) : Cl P w K mg base k x ps sp := by
  obtain ⟨f, fd, G, r⟩ := C.ex
  exact ⟨f, fd, G.mono h, r⟩
/-- the call of such a def -/
theorem pcl {X : Cx} {k : Nat} {x : Str} {ps : List Str} {sp : Sp} {p pos : Pos} {e : Expr} {es : List Expr} {t : TA} (C : Cl X.prog X.w X.K X.mg X.base k x ps sp) (hr : Room k X.A) (hg : Gl X x) (ha : PA X (e :: es) t)
    (hdb : (x == ("__debug__" : Str)) = false := by decide) (he : starEach (e :: es) X.env = (false, eval e X.env) :: starEach es X.env := by rfl) (hpl : (backTo pos (starEach es X.env)).any (·.1) = false := by rfl) :
    PE X (.Call (.Name x p) (e :: es) [] pos) (tCall sp [] E0 t) := by
  obtain ⟨f, fd, G, hk, hb, hm⟩ := C.ex
  exact pe_call G hr hg hm hk hb .nil pass0 ha hdb he hpl
/-- THE RULE for a def -/
theorem At.ok {P : Program} {w : World} {K : PySem.W.Frag} {mg : Str → Option Value} {base : Heap} {x : Str} {st : Stmt} {N ps : List Str} {k : Nat} {sp : Sp} (D : At K mg x st ps) (S : FnScope N ps (defScope st)) (len : ∀ vs H Q E, sp vs H Q E → vs.length = ps.length)
    (hbody : ∀ (f : Addr) (cdv : Value) (A : Around) (outer : List Env) (s : Shared) (H : Hp) (vs : List V) (Q : VK) (E : XK), Room k (A.deeper (envOfC x (defScope st) s.heap.objs.size f cdv)) → sp vs H Q E →
      ∃ t, PSs (cxOf CX0 P w K mg base N x (defScope st) f cdv A outer s H E).nox (defBody st) t ∧ t { nx := fun _ H' => Q .non H', rt := Q } (start N vs) H) : Cl P w K mg base (k + 1) x ps sp := by
  obtain ⟨f, fd, F, b, m⟩ := D.ex
  exact ⟨f, fd, F.ok S len fun cdv A outer s H vs Q E hr h => hbody f cdv A outer s H vs Q E hr h, F.kp, b, m⟩
theorem at_mk {K : PySem.W.Frag} {h : Heap} {mg : Str → Option Value} {x : Str} {st : Stmt} {ps : List Str} {f : Addr} {od an : Option Addr} {sl : Array (Option Value)} {oc kV dc pm cd ct : Value} (X : K.In h) (G : h.Ns mainGlobals mg)
    (a : PySem.W.nsIn K mainGlobals x = some (some (.ref f)))
    (l : K.lookup f = some ⟨oc, od, .func (PySem.W.fnOf x x (defArgs st) (defBody st) (defScope st) .none kV dc pm an cd ct), sl⟩) (c : PySem.W.codeIn K cd x = true) (k : PySem.W.keepIn K (.ref f) = true)
    (hb : ∀ (kV doc pm : Value) (an : Option Addr) (cdv ct : Value) (us : List Value), us.length = ps.length → bindArgs (PySem.W.fnOf x x (defArgs st) (defBody st) (defScope st) .none kV doc pm an cdv ct) ⟨us, []⟩ = pure (ps.zip us)) :
    At K mg x st ps :=
  ⟨f, _, fun_mk l c k, (fun_mk (st := st) l c k).binds hb, PySem.W.mg_of X G a⟩
/-! ### the names of each def -/
theorem scWhole : FnScope ["thing"] ["thing"] (defScope sWhole) := ⟨rfl, rfl, rfl, by decide +kernel, rfl, by decide +kernel, by decide +kernel⟩
theorem scBetween : FnScope ["thing", "low", "high"] ["thing", "low", "high"] (defScope sBetween) := ⟨rfl, rfl, rfl, by decide +kernel, rfl, by decide +kernel, by decide +kernel⟩
theorem scNeedB : FnScope ["thing", "low", "high"] ["thing", "low", "high"] (defScope sNeedB) := ⟨rfl, rfl, rfl, by decide +kernel, rfl, by decide +kernel, by decide +kernel⟩
theorem scNeedN : FnScope ["n"] ["n"] (defScope sNeedN) := ⟨rfl, rfl, rfl, by decide +kernel, rfl, by decide +kernel, by decide +kernel⟩
theorem scNeedF : FnScope ["number"] ["number"] (defScope sNeedF) := ⟨rfl, rfl, rfl, by decide +kernel, rfl, by decide +kernel, by decide +kernel⟩
theorem scPower : FnScope ["base", "often", "n", "found", "square", "left"] ["base", "often", "n"] (defScope sPower) := ⟨rfl, rfl, rfl, by decide +kernel, rfl, by decide +kernel, by decide +kernel⟩
theorem scRaised : FnScope ["base", "often", "n"] ["base", "often", "n"] (defScope sRaised) := ⟨rfl, rfl, rfl, by decide +kernel, rfl, by decide +kernel, by decide +kernel⟩
theorem scCommon : FnScope ["one", "other"] ["one", "other"] (defScope sCommon) := ⟨rfl, rfl, rfl, by decide +kernel, rfl, by decide +kernel, by decide +kernel⟩
theorem scShared : FnScope ["one", "other"] ["one", "other"] (defScope sShared) := ⟨rfl, rfl, rfl, by decide +kernel, rfl, by decide +kernel, by decide +kernel⟩
theorem scUndBy : FnScope ["number", "n", "one", "other", "first", "second", "often"] ["number", "n"] (defScope sUndBy) := ⟨rfl, rfl, rfl, by decide +kernel, rfl, by decide +kernel, by decide +kernel⟩
theorem scUndone : FnScope ["number", "n"] ["number", "n"] (defScope sUndone) := ⟨rfl, rfl, rfl, by decide +kernel, rfl, by decide +kernel, by decide +kernel⟩
theorem scPparts : FnScope ["number", "found", "left", "prime", "often"] ["number"] (defScope sPparts) := ⟨rfl, rfl, rfl, by decide +kernel, rfl, by decide +kernel, by decide +kernel⟩
theorem scTold : FnScope ["number"] ["number"] (defScope sTold) := ⟨rfl, rfl, rfl, by decide +kernel, rfl, by decide +kernel, by decide +kernel⟩
theorem scIsP : FnScope ["number"] ["number"] (defScope sIsP) := ⟨rfl, rfl, rfl, by decide +kernel, rfl, by decide +kernel, by decide +kernel⟩
theorem scPartsOf : FnScope ["number"] ["number"] (defScope sPartsOf) := ⟨rfl, rfl, rfl, by decide +kernel, rfl, by decide +kernel, by decide +kernel⟩
theorem scCell : FnScope ["_law_script", "_law_k"] ["_law_script", "_law_k"] (defScope sCell) := ⟨rfl, rfl, rfl, by decide +kernel, rfl, by decide +kernel, by decide +kernel⟩
theorem scState : FnScope ["_law_script", "_law_k", "_law_cell"] ["_law_script", "_law_k"] (defScope sState) := ⟨rfl, rfl, rfl, by decide +kernel, rfl, by decide +kernel, by decide +kernel⟩
theorem scTake : FnScope ["_law_state_here", "_law_many", "_law_found", "_law_stirred"] ["_law_state_here", "_law_many"] (defScope sTake) := ⟨rfl, rfl, rfl, by decide +kernel, rfl, by decide +kernel, by decide +kernel⟩
theorem scFar : FnScope ["_law_state_here", "_law_many", "_law_found", "_law_turn"] ["_law_state_here", "_law_many"] (defScope sFar) := ⟨rfl, rfl, rfl, by decide +kernel, rfl, by decide +kernel, by decide +kernel⟩
theorem scNumber : FnScope ["_law_state_here", "_law_way", "_law_some"] ["_law_state_here"] (defScope sNumber) := ⟨rfl, rfl, rfl, by decide +kernel, rfl, by decide +kernel, by decide +kernel⟩
theorem scFarNum : FnScope ["_law_state_here", "_law_number_here"] ["_law_state_here"] (defScope sFarNum) := ⟨rfl, rfl, rfl, by decide +kernel, rfl, by decide +kernel, by decide +kernel⟩
theorem scLParts : FnScope ["_law_number_here", "_law_found", "_law_left", "_law_prime_here", "_law_often"] ["_law_number_here"] (defScope sLParts) := ⟨rfl, rfl, rfl, by decide +kernel, rfl, by decide +kernel, by decide +kernel⟩
theorem scLIsP : FnScope ["_law_number_here"] ["_law_number_here"] (defScope sLIsP) := ⟨rfl, rfl, rfl, by decide +kernel, rfl, by decide +kernel, by decide +kernel⟩
theorem scLPrime : FnScope ["_law_state_here", "_law_most", "_law_number_here"] ["_law_state_here", "_law_most"] (defScope sLPrime) := ⟨rfl, rfl, rfl, by decide +kernel, rfl, by decide +kernel, by decide +kernel⟩
theorem scLaw : FnScope ["_law_script", "_law_k", "_law_state_here", "_law_one", "_law_other", "_law_n", "_law_first", "_law_second", "_law_back", "_law_prime_here", "_law_number_here", "_law_found", "_law_part", "_law_often", "_law_turn"] ["_law_script"] (defScope sLaw) := ⟨rfl, rfl, rfl, by decide +kernel, rfl, by decide +kernel, by decide +kernel⟩
/-! ### heaps -/
theorem same_new {H : Hp} {p : Addr} {o : HO} (h : H p = none) : Same H (upd H p o) := fun b u q => by
  rw [upd_ne (ne_of_none q h)]
  exact q
end K04
namespace K04
open PySem PySem.Spec PyProof.Rows L2
/-! ### numbers -/
abbrev M30 : Int := 1000000000000000000000000000000
theorem b200 {i : Int} (h : -M30 ≤ i) (h2 : i ≤ M30) : i.natAbs < 2 ^ 200 := by
  have e : (2 : Nat) ^ 200 = 1606938044258990275541962092341162602522202993782792835301376 := by decide +kernel
  have m : M30 = 1000000000000000000000000000000 := rfl
  rw [e]
  rw [m] at h h2
  omega
theorem mulOk {i j : Int} (hi : i.natAbs < 2 ^ 200) (hj : j.natAbs < 2 ^ 200) : CMulW i j := wide_mul hi hj (by decide) (by decide) (by decide)
theorem divOk {i j : Int} (h : 0 < j) (hj : j.natAbs < 2 ^ 200) : CDivW i j := wide_div h hj (by decide) (by decide)
/-- the int in slot i, not below 0 -/
def slotN (i : Nat) (σ : L2.St) : Nat := match σ[i]? with
  | some (some (.int l)) => l.toNat
  | _ => 0
section
variable {P : Program} {w : World} {K : PySem.W.Frag} {mg : Str → Option Value} {base : Heap}
/-! ### what is asked of a number -/
def spWhole : Sp := fun vs H Q _ => ∃ z : Int, vs = [.int z] ∧ Q (.bl true) H
theorem c_whole (D : At K mg "is_whole" sWhole ["thing"]) (m1 : mg "isinstance" = none) (m2 : mg "int" = none) (m3 : mg "bool" = none) : Cl P w K mg base 1 "is_whole" ["thing"] spWhole := by
  refine D.ok scWhole (fun vs H Q E h => ?_) (fun f cdv A outer s H vs Q E hr h => ?_)
  · obtain ⟨z, rfl, _⟩ := h
    rfl
  obtain ⟨z, rfl, q⟩ := h
  refine ⟨_, pss_one (ps_ret (pe_and (pe_callB call_isi (by rfl) m1 (by decide +kernel) (pa_cons (pv 0) (pa_cons (pe_bltn (v := .ty "int") (by rfl) m2 (by decide +kernel) rfl) pa_nil)))
    (pe_one (pe_not (pe_callB call_isi (by rfl) m1 (by decide +kernel) (pa_cons (pv 0) (pa_cons (pe_bltn (v := .ty "bool") (by rfl) m3 (by decide +kernel) rfl) pa_nil))))))), ?_⟩
  refine ⟨_, rfl, .int z, .ty "int", .type "int", .type "int", true, rfl, .ty _, .base (.int z), kit_ty (by decide +kernel), true, rfl, iteT ?_⟩
  refine ⟨_, rfl, .int z, .ty "bool", .type "int", .type "bool", false, rfl, .ty _, .base (.int z), kit_ty (by decide +kernel), false, rfl, ?_⟩
  exact q
def spBetween : Sp := fun vs H Q _ => ∃ z lo hi : Int, vs = [.int z, .int lo, .int hi] ∧ lo ≤ z ∧ z ≤ hi ∧ Q (.bl true) H
theorem c_between (D : At K mg "is_between" sBetween ["thing", "low", "high"]) (C : Cl P w K mg base 1 "is_whole" ["thing"] spWhole) : Cl P w K mg base 2 "is_between" ["thing", "low", "high"] spBetween := by
  refine D.ok scBetween (fun vs H Q E h => ?_) (fun f cdv A outer s H vs Q E hr h => ?_)
  · obtain ⟨z, lo, hi, rfl, _⟩ := h
    rfl
  obtain ⟨z, lo, hi, rfl, h1, h2, q⟩ := h
  refine ⟨_, pss_one (ps_ret (pe_and (pcl C hr (by rfl) (pa_cons (pv 0) pa_nil)) (pe_one (pe_chain op_le op_le (pv 1) (pv 0) (pv 2))))), ?_⟩
  refine ⟨_, rfl, z, rfl, true, rfl, iteT ?_⟩
  refine ⟨_, rfl, _, rfl, lo, z, rfl, rfl, _, rfl, ?_⟩
  rw [decide_eq_true h1]
  refine iteT ⟨_, rfl, z, hi, rfl, rfl, ?_⟩
  show Q (.bl (decide (z ≤ hi))) H
  rw [decide_eq_true h2]
  exact q
def spNeedB : Sp := fun vs H Q _ => ∃ z lo hi : Int, vs = [.int z, .int lo, .int hi] ∧ lo ≤ z ∧ z ≤ hi ∧ Q .non H
theorem c_needB (D : At K mg "need_between" sNeedB ["thing", "low", "high"]) (C : Cl P w K mg base 2 "is_between" ["thing", "low", "high"] spBetween) : Cl P w K mg base 3 "need_between" ["thing", "low", "high"] spNeedB := by
  refine D.ok scNeedB (fun vs H Q E h => ?_) (fun f cdv A outer s H vs Q E hr h => ?_)
  · obtain ⟨z, lo, hi, rfl, _⟩ := h
    rfl
  obtain ⟨z, lo, hi, rfl, h1, h2, q⟩ := h
  refine ⟨_, pss_one (ps_if (pt_not (pt_val (pcl C hr (by rfl) (pa_cons (pv 0) (pa_cons (pv 1) (pa_cons (pv 2) pa_nil)))))) (pss_one ps_never) pss_nil), ?_⟩
  exact ⟨_, rfl, _, rfl, _, rfl, z, lo, hi, rfl, h1, h2, true, rfl, iteF q⟩
def spNeedN : Sp := fun vs H Q _ => ∃ n : Int, vs = [.int n] ∧ 1 ≤ n ∧ n ≤ M30 ∧ Q .non H
theorem c_needN {t : Tok} (D : At K mg "need_number" sNeedN ["n"]) (mM : mg "MOST" = some (.int M30 t)) (C : Cl P w K mg base 3 "need_between" ["thing", "low", "high"] spNeedB) : Cl P w K mg base 4 "need_number" ["n"] spNeedN := by
  refine D.ok scNeedN (fun vs H Q E h => ?_) (fun f cdv A outer s H vs Q E hr h => ?_)
  · obtain ⟨z, rfl, _⟩ := h
    rfl
  obtain ⟨z, rfl, h1, h2, q⟩ := h
  refine ⟨_, pss_one (ps_expr (pcl C hr (by rfl) (pa_cons (pv 0) (pa_cons pe_int (pa_cons (pe_glob (v := .int M30) (by rfl) mM ⟨_, rfl⟩) pa_nil))))), ?_⟩
  exact ⟨_, rfl, z, 1, M30, rfl, h1, h2, q⟩
def spNeedF : Sp := fun vs H Q _ => ∃ n : Int, vs = [.int n] ∧ -M30 ≤ n ∧ n ≤ M30 ∧ Q .non H
theorem c_needF {t : Tok} (D : At K mg "need_far" sNeedF ["number"]) (mM : mg "MOST" = some (.int M30 t)) (C : Cl P w K mg base 3 "need_between" ["thing", "low", "high"] spNeedB) : Cl P w K mg base 4 "need_far" ["number"] spNeedF := by
  refine D.ok scNeedF (fun vs H Q E h => ?_) (fun f cdv A outer s H vs Q E hr h => ?_)
  · obtain ⟨z, rfl, _⟩ := h
    rfl
  obtain ⟨z, rfl, h1, h2, q⟩ := h
  refine ⟨_, pss_one (ps_expr (pcl C hr (by rfl) (pa_cons (pv 0) (pa_cons (pe_op op_sub pe_int (pe_glob (v := .int M30) (by rfl) mM ⟨_, rfl⟩)) (pa_cons (pe_glob (v := .int M30) (by rfl) mM ⟨_, rfl⟩) pa_nil))))), ?_⟩
  exact ⟨_, rfl, 0, M30, rfl, rfl, z, 0 - M30, M30, rfl, by omega, h2, q⟩
/-! ### powers -/
def spPower : Sp := fun vs H Q _ => ∃ b o n : Int, vs = [.int b, .int o, .int n] ∧ 0 ≤ o ∧ 1 ≤ n ∧ n ≤ M30 ∧ Q (.int (pw b o.toNat n)) H
theorem c_power (D : At K mg "power_of" sPower ["base", "often", "n"]) : Cl P w K mg base 1 "power_of" ["base", "often", "n"] spPower := by
  refine D.ok scPower (fun vs H Q E h => ?_) (fun f cdv A outer s H vs Q E hr h => ?_)
  · obtain ⟨_, _, _, rfl, _⟩ := h
    rfl
  obtain ⟨b, o, n, rfl, ho, hn, hm, q⟩ := h
  have nd := scPower.nd
  refine ⟨_, pss_cons (ps_set (i := 3) nd rfl (.inl rfl) (pe_op op_mod pe_int (pv 2)))
    (pss_cons (ps_set (i := 4) nd rfl (.inl rfl) (pe_op op_mod (pv 0) (pv 2)))
    (pss_cons (ps_set (i := 5) nd rfl (.inl rfl) (pv 1))
    (pss_cons (ps_while PassesOwn.never (pt_cmpR op_gt (pv 5) pe_int (nomark _))
      (pss_cons (ps_if (pt_cmpR op_eq (pe_op op_mod (pv 5) pe_int) pe_int (nomark _)) (pss_one (ps_set (i := 3) nd rfl (.inl rfl) (pe_op op_mod (pe_op op_mulW (pv 3) (pv 4)) (pv 2)))) pss_nil)
      (pss_cons (ps_set (i := 4) nd rfl (.inl rfl) (pe_op op_mod (pe_op op_mulW (pv 4) (pv 4)) (pv 2)))
      (pss_one (ps_set (i := 5) nd rfl (.inl rfl) (pe_op op_fdiv (pv 5) pe_int))))))
    (pss_one (ps_ret (pv 3)))))), ?_⟩
  have hn0 : 0 < n := by omega
  refine ⟨_, rfl, 1, n, rfl, rfl, hn0, ?_⟩
  refine ⟨_, rfl, _, rfl, b, n, rfl, rfl, hn0, ?_⟩
  refine ⟨_, rfl, ?_⟩
  refine while_by (fun σ H' => H' = H ∧ ∃ f s l : Int, σ = [some (.int b), some (.int o), some (.int n), some (.int f), some (.int s), some (.int l)] ∧ 0 ≤ l ∧ 0 ≤ f ∧ f < n ∧ 0 ≤ s ∧ s < n ∧ (f * s ^ l.toNat) % n = pw b o.toNat n)
    (fun σ _ => slotN 5 σ)
    ⟨rfl, 1 % n, b % n, o, rfl, ho, Int.emod_nonneg _ (by omega), Int.emod_lt_of_pos _ hn0, Int.emod_nonneg _ (by omega), Int.emod_lt_of_pos _ hn0, pow_start b n o.toNat⟩ ?_ ?_
  · rintro σ H' ⟨rfl, f, s, l, rfl, hl, f0, f1, s0, s1, e⟩
    have wf : f.natAbs < 2 ^ 200 := b200 (by omega) (by omega)
    have ws : s.natAbs < 2 ^ 200 := b200 (by omega) (by omega)
    refine ⟨_, rfl, l, 0, rfl, rfl, _, rfl, ite2 (fun c => ?_) (fun c => ?_)⟩
    · have hl0 : 0 < l := of_decide_eq_true c
      have l2 : (l / 2).toNat < l.toNat := by omega
      refine ⟨_, rfl, l, 2, rfl, rfl, (by show (0 : Int) < 2; decide), rfl, _, rfl, ite2 (fun c2 => ?_) (fun c2 => ?_)⟩
      · have o1 : l % 2 = 1 := V.int.inj (of_decide_eq_true c2)
        have el : l.toNat = 2 * (l / 2).toNat + 1 := by omega
        refine ⟨_, rfl, _, rfl, f, s, rfl, rfl, mulOk wf ws, _, rfl, f * s, n, rfl, rfl, hn0, ?_⟩
        refine ⟨_, rfl, _, rfl, s, s, rfl, rfl, mulOk ws ws, _, rfl, s * s, n, rfl, rfl, hn0, ?_⟩
        refine ⟨_, rfl, l, 2, rfl, rfl, ⟨by decide, by decide⟩, ?_⟩
        refine ⟨⟨rfl, f * s % n, s * s % n, l / 2, rfl, by omega, Int.emod_nonneg _ (by omega), Int.emod_lt_of_pos _ hn0, Int.emod_nonneg _ (by omega), Int.emod_lt_of_pos _ hn0, ?_⟩, l2⟩
        rw [pow_odd, ← el]
        exact e
      · have o1 : ¬ l % 2 = 1 := fun z => c2 (decide_eq_true (congrArg V.int z))
        have el : l.toNat = 2 * (l / 2).toNat := by omega
        refine ⟨_, rfl, _, rfl, s, s, rfl, rfl, mulOk ws ws, _, rfl, s * s, n, rfl, rfl, hn0, ?_⟩
        refine ⟨_, rfl, l, 2, rfl, rfl, ⟨by decide, by decide⟩, ?_⟩
        refine ⟨⟨rfl, f, s * s % n, l / 2, rfl, by omega, f0, f1, Int.emod_nonneg _ (by omega), Int.emod_lt_of_pos _ hn0, ?_⟩, l2⟩
        rw [pow_even, ← el]
        exact e
    · have hl0 : ¬ 0 < l := fun z => c (decide_eq_true z)
      have el : l.toNat = 0 := by omega
      rw [el, pow_end f0 f1] at e
      refine ⟨_, rfl, ?_⟩
      rw [e]
      exact q
  · rintro σ H' Q1 Q2 h12 ⟨v, e, i, j, e1, e2, k, e3, q3⟩
    exact ⟨v, e, i, j, e1, e2, k, e3, h12 _ _ q3⟩
def spRaised : Sp := fun vs H Q _ => ∃ b o n : Int, vs = [.int b, .int o, .int n] ∧ -M30 ≤ b ∧ b ≤ M30 ∧ 0 ≤ o ∧ o ≤ M30 ∧ 1 ≤ n ∧ n ≤ M30 ∧ Q (.int (pw b o.toNat n)) H
theorem c_raised {t : Tok} (D : At K mg "raised" sRaised ["base", "often", "n"]) (mM : mg "MOST" = some (.int M30 t)) (CF : Cl P w K mg base 4 "need_far" ["number"] spNeedF) (CB : Cl P w K mg base 3 "need_between" ["thing", "low", "high"] spNeedB)
    (CN : Cl P w K mg base 4 "need_number" ["n"] spNeedN) (CP : Cl P w K mg base 1 "power_of" ["base", "often", "n"] spPower) : Cl P w K mg base 5 "raised" ["base", "often", "n"] spRaised := by
  refine D.ok scRaised (fun vs H Q E h => ?_) (fun f cdv A outer s H vs Q E hr h => ?_)
  · obtain ⟨_, _, _, rfl, _⟩ := h
    rfl
  obtain ⟨b, o, n, rfl, b0, b1, o0, o1, n0, n1, q⟩ := h
  refine ⟨_, pss_cons (ps_expr (pcl CF hr (by rfl) (pa_cons (pv 0) pa_nil)))
    (pss_cons (ps_expr (pcl CB (hr.mono (by decide)) (by rfl) (pa_cons (pv 1) (pa_cons pe_int (pa_cons (pe_glob (v := .int M30) (by rfl) mM ⟨_, rfl⟩) pa_nil)))))
    (pss_cons (ps_expr (pcl CN hr (by rfl) (pa_cons (pv 2) pa_nil)))
    (pss_one (ps_ret (pcl CP (hr.mono (by decide)) (by rfl) (pa_cons (pv 0) (pa_cons (pv 1) (pa_cons (pv 2) pa_nil)))))))), ?_⟩
  refine ⟨_, rfl, b, rfl, b0, b1, ?_⟩
  refine ⟨_, rfl, o, 0, M30, rfl, o0, o1, ?_⟩
  refine ⟨_, rfl, n, rfl, n0, n1, ?_⟩
  exact ⟨_, rfl, _, rfl, _, rfl, b, o, n, rfl, o0, n0, n1, q⟩
/-! ### what two numbers share -/
theorem gcd_abs (a b : Int) : Int.gcd (if a < 0 then -a else a) (if b < 0 then -b else b) = Int.gcd a b := by
  have e : ∀ x : Int, (if x < 0 then -x else x).natAbs = x.natAbs := fun x => by
    split <;> omega
  unfold Int.gcd
  rw [e, e]
def spCommon : Sp := fun vs H Q _ => ∃ a b : Int, vs = [.int a, .int b] ∧ Q (.int ((Int.gcd a b : Nat) : Int)) H
theorem c_common (D : At K mg "common" sCommon ["one", "other"]) (mA : mg "abs" = none) : Cl P w K mg base 1 "common" ["one", "other"] spCommon := by
  refine D.ok scCommon (fun vs H Q E h => ?_) (fun f cdv A outer s H vs Q E hr h => ?_)
  · obtain ⟨_, _, rfl, _⟩ := h
    rfl
  obtain ⟨a, b, rfl, q⟩ := h
  have nd := scCommon.nd
  refine ⟨_, pss_cons (ps_par (i := 0) (j := 1) rfl nd rfl rfl (by decide) rfl rfl (pa_cons (pe_callB call_abs (by rfl) mA (by decide +kernel) (pa_cons (pv 0) pa_nil)) (pa_cons (pe_callB call_abs (by rfl) mA (by decide +kernel) (pa_cons (pv 1) pa_nil)) pa_nil)) (by rfl))
    (pss_cons (ps_while PassesOwn.never (pt_cmpR op_gt (pv 1) pe_int (nomark _))
      (pss_one (ps_par (i := 0) (j := 1) rfl nd rfl rfl (by decide) rfl rfl (pa_cons (pv 1) (pa_cons (pe_op op_mod (pv 0) (pv 1)) pa_nil)) (by rfl))))
    (pss_one (ps_ret (pv 0)))), ?_⟩
  refine ⟨_, rfl, a, rfl, _, rfl, b, rfl, _, _, rfl, ?_⟩
  refine while_by (fun σ H' => H' = H ∧ ∃ x y : Int, σ = [some (.int x), some (.int y)] ∧ 0 ≤ x ∧ 0 ≤ y ∧ Int.gcd x y = Int.gcd a b) (fun σ _ => slotN 1 σ)
    ⟨rfl, _, _, rfl, by split <;> omega, by split <;> omega, gcd_abs a b⟩ ?_ ?_
  · rintro σ H' ⟨rfl, x, y, rfl, hx, hy, e⟩
    refine ⟨_, rfl, y, 0, rfl, rfl, _, rfl, ite2 (fun c => ?_) (fun c => ?_)⟩
    · have y0 : 0 < y := of_decide_eq_true c
      have r0 := Int.emod_nonneg x (show y ≠ 0 by omega)
      have r1 := Int.emod_lt_of_pos x y0
      refine ⟨_, rfl, _, rfl, _, rfl, x, y, rfl, rfl, y0, _, _, rfl, ⟨rfl, y, x % y, rfl, hy, r0, ?_⟩, ?_⟩
      · rw [gcd_turn]
        exact e
      · show (x % y).toNat < y.toNat
        omega
    · have y0 : ¬ 0 < y := fun z => c (decide_eq_true z)
      have ey : y = 0 := by omega
      subst ey
      refine ⟨_, rfl, ?_⟩
      rw [← e, gcd_end hx] at q
      exact q
  · rintro σ H' Q1 Q2 h12 ⟨v, e, i, j, e1, e2, k, e3, q3⟩
    exact ⟨v, e, i, j, e1, e2, k, e3, h12 _ _ q3⟩
def spShared : Sp := fun vs H Q _ => ∃ a b : Int, vs = [.int a, .int b] ∧ -M30 ≤ a ∧ a ≤ M30 ∧ -M30 ≤ b ∧ b ≤ M30 ∧ Q (.int ((Int.gcd a b : Nat) : Int)) H
theorem c_shared (D : At K mg "shared" sShared ["one", "other"]) (CF : Cl P w K mg base 4 "need_far" ["number"] spNeedF) (CC : Cl P w K mg base 1 "common" ["one", "other"] spCommon) : Cl P w K mg base 5 "shared" ["one", "other"] spShared := by
  refine D.ok scShared (fun vs H Q E h => ?_) (fun f cdv A outer s H vs Q E hr h => ?_)
  · obtain ⟨_, _, rfl, _⟩ := h
    rfl
  obtain ⟨a, b, rfl, a0, a1, b0, b1, q⟩ := h
  refine ⟨_, pss_cons (ps_expr (pcl CF hr (by rfl) (pa_cons (pv 0) pa_nil))) (pss_cons (ps_expr (pcl CF hr (by rfl) (pa_cons (pv 1) pa_nil)))
    (pss_one (ps_ret (pcl CC (hr.mono (by decide)) (by rfl) (pa_cons (pv 0) (pa_cons (pv 1) pa_nil)))))), ?_⟩
  refine ⟨_, rfl, a, rfl, a0, a1, ?_⟩
  refine ⟨_, rfl, b, rfl, b0, b1, ?_⟩
  exact ⟨_, rfl, _, rfl, a, b, rfl, q⟩
/-! ### what undoes -/
def spUndBy : Sp := fun vs H Q _ => ∃ a n : Int, vs = [.int a, .int n] ∧ 1 ≤ n ∧ n ≤ M30 ∧ (Int.gcd a n ≠ 1 → ∀ H' : Hp, Same H H' → Q .non H') ∧ ∀ (x : Int) (H' : Hp), Int.gcd a n = 1 → Und a n x → Same H H' → Q (.int x) H'
theorem c_undBy (D : At K mg "undone_by" sUndBy ["number", "n"]) : Cl P w K mg base 1 "undone_by" ["number", "n"] spUndBy := by
  refine D.ok scUndBy (fun vs H Q E h => ?_) (fun f cdv A outer s H vs Q E hr h => ?_)
  · obtain ⟨_, _, rfl, _⟩ := h
    rfl
  obtain ⟨a, n, rfl, n0, n1, qN, qS⟩ := h
  have nd := scUndBy.nd
  refine ⟨_, pss_cons (ps_par (i := 2) (j := 3) rfl nd rfl rfl (by decide) rfl rfl (pa_cons (pv 1) (pa_cons (pe_op op_mod (pv 0) (pv 1)) pa_nil)) (by rfl))
    (pss_cons (ps_asg (pe_tup (pa_cons pe_int (pa_cons pe_int pa_nil))) (pg_tup rfl (pgs_cons (pg_name (i := 4) nd rfl (.inl rfl)) (pgs_cons (pg_name (i := 5) nd rfl (.inl rfl)) pgs_nil))))
    (pss_cons (ps_while PassesOwn.never (pt_cmpR op_gt (pv 3) pe_int (nomark _))
      (pss_cons (ps_set (i := 6) nd rfl (.inl rfl) (pe_op op_fdivW (pv 2) (pv 3)))
      (pss_cons (ps_par (i := 2) (j := 3) rfl nd rfl rfl (by decide) rfl rfl (pa_cons (pv 3) (pa_cons (pe_op op_sub (pv 2) (pe_op op_mulW (pv 6) (pv 3))) pa_nil)) (by rfl))
      (pss_one (ps_par (i := 4) (j := 5) rfl nd rfl rfl (by decide) rfl rfl (pa_cons (pv 5) (pa_cons (pe_op op_sub (pv 4) (pe_op op_mulW (pv 6) (pv 5))) pa_nil)) (by rfl))))))
    (pss_cons (ps_if (pt_cmpR op_ne (pv 2) pe_int (nomark _)) (pss_one (ps_ret pe_non)) pss_nil)
    (pss_one (ps_ret (pe_op op_mod (pv 4) (pv 1))))))), ?_⟩
  have hn0 : 0 < n := by omega
  refine ⟨_, rfl, _, rfl, _, rfl, a, n, rfl, rfl, hn0, _, _, rfl, ?_⟩
  refine ⟨(by show 2 ≤ sizeLine; decide), fun t ht => ?_⟩
  have sm : Same H (upd H t (.tup [.int 0, .int 1])) := same_new ht
  refine ⟨t, _, rfl, SqT.of upd_same, rfl, _, _, rfl, _, _, rfl, rfl, ?_⟩
  refine while_by (fun σ H' => Same H H' ∧ ∃ (x y u v : Int) (z : Option V), σ = [some (.int a), some (.int n), some (.int x), some (.int y), some (.int u), some (.int v), z] ∧ Euc a n x y u v) (fun σ _ => slotN 3 σ)
    ⟨sm, n, a % n, 0, 1, none, rfl, euc_start n0⟩ ?_ ?_
  · rintro σ H' ⟨sm', x, y, u, v, z, rfl, E⟩
    refine ⟨_, rfl, y, 0, rfl, rfl, _, rfl, ite2 (fun c => ?_) (fun c => ?_)⟩
    · have y0 : 0 < y := of_decide_eq_true c
      have E2 := E.turn y0
      have l1 := E.p1
      have l2 := E.le
      have l3 := E.le2
      have l4 := E.secondLe
      have g0 : 0 ≤ x / y := Int.ediv_nonneg (by omega) (by omega)
      have g1 : x / y ≤ x := Int.ediv_le_self _ (by omega)
      have em : x - x / y * y = x % y := by
        have := Int.emod_add_mul_ediv x y
        rw [Int.mul_comm] at this
        omega
      have r1 := Int.emod_lt_of_pos x y0
      have wy : y.natAbs < 2 ^ 200 := b200 (by omega) (by omega)
      have wq : (x / y).natAbs < 2 ^ 200 := b200 (by omega) (by omega)
      have wv : v.natAbs < 2 ^ 200 := b200 (by omega) (by omega)
      refine ⟨_, rfl, _, rfl, x, y, rfl, rfl, divOk y0 wy, ?_⟩
      refine ⟨_, rfl, _, rfl, _, rfl, _, rfl, x / y, y, rfl, rfl, mulOk wq wy, x, x / y * y, rfl, rfl, _, _, rfl, ?_⟩
      refine ⟨_, rfl, _, rfl, _, rfl, _, rfl, x / y, v, rfl, rfl, mulOk wq wv, u, x / y * v, rfl, rfl, _, _, rfl, ?_⟩
      refine ⟨⟨sm', y, x - x / y * y, v, u - x / y * v, some (.int (x / y)), rfl, E2⟩, ?_⟩
      show (x - x / y * y).toNat < y.toNat
      omega
    · have y0 : ¬ 0 < y := fun z => c (decide_eq_true z)
      have ey : y = 0 := by
        have := E.p2
        omega
      subst ey
      have en := E.und n0
      refine ⟨_, rfl, rfl, _, rfl, ite2 (fun c2 => ?_) (fun c2 => ?_)⟩
      · have x1 : x ≠ 1 := fun z => by
          subst z
          rw [decide_eq_true rfl] at c2
          exact Bool.false_ne_true c2
        exact qN (en.2 x1) _ sm'
      · have x1 : x = 1 := by
          by_cases z : x = 1
          · exact z
          · exact absurd (by rw [decide_eq_false (fun q => z (V.int.inj q))]; rfl) c2
        have e1 := en.1 x1
        exact ⟨_, rfl, _, rfl, u, n, rfl, rfl, hn0, qS _ _ e1.1 e1.2 sm'⟩
  · rintro σ H' Q1 Q2 h12 ⟨v, e, i, j, e1, e2, k, e3, q3⟩
    exact ⟨v, e, i, j, e1, e2, k, e3, h12 _ _ q3⟩
def spUndone : Sp := fun vs H Q _ => ∃ a n : Int, vs = [.int a, .int n] ∧ -M30 ≤ a ∧ a ≤ M30 ∧ 1 ≤ n ∧ n ≤ M30 ∧ (Int.gcd a n ≠ 1 → ∀ H' : Hp, Same H H' → Q .non H') ∧ ∀ (x : Int) (H' : Hp), Int.gcd a n = 1 → Und a n x → Same H H' → Q (.int x) H'
theorem c_undone (D : At K mg "undone" sUndone ["number", "n"]) (CF : Cl P w K mg base 4 "need_far" ["number"] spNeedF) (CN : Cl P w K mg base 4 "need_number" ["n"] spNeedN) (CU : Cl P w K mg base 1 "undone_by" ["number", "n"] spUndBy) : Cl P w K mg base 5 "undone" ["number", "n"] spUndone := by
  refine D.ok scUndone (fun vs H Q E h => ?_) (fun f cdv A outer s H vs Q E hr h => ?_)
  · obtain ⟨_, _, rfl, _⟩ := h
    rfl
  obtain ⟨a, n, rfl, a0, a1, n0, n1, qN, qS⟩ := h
  refine ⟨_, pss_cons (ps_expr (pcl CF hr (by rfl) (pa_cons (pv 0) pa_nil))) (pss_cons (ps_expr (pcl CN hr (by rfl) (pa_cons (pv 1) pa_nil)))
    (pss_one (ps_ret (pcl CU (hr.mono (by decide)) (by rfl) (pa_cons (pv 0) (pa_cons (pv 1) pa_nil)))))), ?_⟩
  refine ⟨_, rfl, a, rfl, a0, a1, ?_⟩
  refine ⟨_, rfl, n, rfl, n0, n1, ?_⟩
  exact ⟨_, rfl, _, rfl, a, n, rfl, n0, n1, qN, qS⟩
end
end K04
namespace K04
open PySem PySem.Spec PyProof.Rows L2
/-! ### parts as they stand in the heap: pairs in a list or a tuple -/
def PairAt (H : Hp) (v : V) (x : Int × Nat) : Prop := ∃ t : Addr, v = .ref t ∧ H t = some (.tup [.int x.1, .int (x.2 : Int)])
abbrev Pairs (H : Hp) (vs : List V) (L : List (Int × Nat)) : Prop := Paired (PairAt H) vs L
theorem Pairs.same {H H' : Hp} {vs : List V} {L : List (Int × Nat)} (h : Pairs H vs L) (s : Same H H') : Pairs H' vs L :=
  Paired.mono (fun _ _ ⟨t, e, q⟩ => ⟨t, e, s _ _ q⟩) h
theorem Pairs.get {H : Hp} : ∀ {vs : List V} {L : List (Int × Nat)} {i : Nat} {v : V}, Pairs H vs L → vs[i]? = some v → ∃ x, L[i]? = some x ∧ PairAt H v x
  | _, _, _, _, .nil, e => by simp at e
  | _, _, 0, _, .cons h _, e => by
    have q := Option.some.inj e
    subst q
    exact ⟨_, rfl, h⟩
  | _, _, i + 1, _, .cons _ t, e => Pairs.get (i := i) t e
/-- the parts found so far, in the list at a -/
structure Fnd (H : Hp) (a : Addr) (vs : List V) (L : List (Int × Nat)) (H' : Hp) : Prop where
  same : Same H H'
  new : H a = none
  at_ : H' a = some (.lst vs)
  pairs : Pairs H' vs L
theorem Fnd.start {H : Hp} {a : Addr} (h : H a = none) : Fnd H a [] [] (upd H a (.lst [])) := ⟨same_new h, h, upd_same, .nil⟩
theorem Fnd.app {H H' : Hp} {a t : Addr} {vs : List V} {L : List (Int × Nat)} (F : Fnd H a vs L H') (ht : H' t = none) (x : Int × Nat) {o : HO} (ho : o = .tup [.int x.1, .int (x.2 : Int)]) : Fnd H a (vs ++ [.ref t]) (L ++ [x]) (upd (upd H' t o) a (.lst (vs ++ [.ref t]))) := by
  subst ho
  have nat : a ≠ t := ne_of_none F.at_ ht
  refine ⟨fun b u q => ?_, F.new, upd_same, ?_⟩
  · have nb : b ≠ a := fun z => by
      rw [z, F.new] at q
      cases q
    have q2 := F.same b u q
    rw [upd_ne nb, upd_ne (ne_of_none q2 ht)]
    exact q2
  · refine Paired.snoc (Paired.mono (fun v y ⟨p, e, q⟩ => ⟨p, e, ?_⟩) F.pairs) ⟨t, rfl, ?_⟩
    · rw [upd_ne nat.symm, upd_same]
    · have np : p ≠ a := fun z => by
        rw [z, F.at_] at q
        cases q
      rw [upd_ne np, upd_ne (ne_of_none q ht)]
      exact q
theorem small30 {n : Nat} (h : n ≤ 30) : n < sizeLine := Nat.lt_of_le_of_lt h (by decide)
theorem le30 {n : Nat} (h : n ≤ 30) : n ≤ sizeLine := Nat.le_of_lt (small30 h)
/-! ### == of parts -/
def dat (x : Int × Nat) : PyData := .tuple [.int x.1, .int (x.2 : Int)]
theorem dat_lay : ∀ L : List (Int × Nat), PyData.canLayAll0 (L.map dat) = true
  | [] => rfl
  | x :: r => by
    show (PyData.canLay0 (dat x) && PyData.canLayAll0 (r.map dat)) = true
    rw [dat_lay r]
    rfl
theorem dat_depth : ∀ L : List (Int × Nat), PyData.depthAll (L.map dat) ≤ 1
  | [] => Nat.zero_le _
  | x :: r => by
    show max (PyData.depth (dat x)) (PyData.depthAll (r.map dat)) ≤ 1
    exact Nat.max_le.mpr ⟨Nat.le_refl _, dat_depth r⟩
theorem dat_tup (L : List (Int × Nat)) : SeqAt.shaped (.tuple (L.map dat)) = true := by
  unfold SeqAt.shaped
  rw [Bool.and_eq_true]
  refine ⟨dat_lay L, decide_eq_true ?_⟩
  show PyData.depthAll (L.map dat) + 1 ≤ 64
  have := dat_depth L
  omega
theorem dat_lst (L : List (Int × Nat)) : SeqAt.shaped (.list (L.map dat)) = true := dat_tup L
theorem dat_eq (n : Int) : ∀ L : List (Int × Nat), PyData.eqvAll (L.map dat) [dat (n, 1)] = decide (L = [(n, 1)])
  | [] => by
    rw [decide_eq_false (by intro z; cases z)]
    rfl
  | [x] => by
    obtain ⟨p, e⟩ := x
    show (((p == n) && (((e : Int) == ((1 : Nat) : Int)) && true)) && true) = decide ([(p, e)] = [(n, 1)])
    by_cases h1 : p = n
    · subst h1
      by_cases h2 : e = 1
      · subst h2
        simp
      · have : ¬ (e : Int) = 1 := by omega
        rw [decide_eq_false (by intro z; cases z; exact h2 rfl)]
        simp [this]
    · rw [decide_eq_false (by intro z; cases z; exact h1 rfl)]
      simp [h1]
  | x :: y :: r => by
    rw [decide_eq_false (by intro z; cases z)]
    show (PyData.eqv (dat x) (dat (n, 1)) && PyData.eqvAll (dat y :: r.map dat) []) = false
    rw [show PyData.eqvAll (dat y :: r.map dat) [] = false from rfl, Bool.and_false]
theorem dp_pair {K : PySem.W.Frag} {H : Hp} {v : V} {x : Int × Nat} (h : PairAt H v x) : Dp K H v (dat x) := by
  obtain ⟨t, rfl, e⟩ := h
  exact .tup (SqT.of e) (.cons (.int _) (.cons (.int _) .nil))
theorem dp_pairs {K : PySem.W.Frag} {H : Hp} : ∀ {vs : List V} {L : List (Int × Nat)}, Pairs H vs L → DpAll K H vs (L.map dat)
  | _, _, .nil => .nil
  | _, _, .cons h t => .cons (dp_pair h) (dp_pairs t)
section
variable {P : Program} {w : World} {K : PySem.W.Frag} {mg : Str → Option Value} {base : Heap}
/-! ### the program's own parts -/
abbrev M9 : Int := 1000000000
theorem b9 {i : Int} (h : -M9 ≤ i) (h2 : i ≤ M9) : i.natAbs < 2 ^ 200 := by
  have e : (2 : Nat) ^ 200 = 1606938044258990275541962092341162602522202993782792835301376 := by decide +kernel
  have m : M9 = 1000000000 := rfl
  rw [e]
  rw [m] at h h2
  omega
def spPparts : Sp := fun vs H Q _ => ∃ n : Int, vs = [.int n] ∧ 1 ≤ n ∧ n ≤ M9 ∧ ∀ (r : Addr) (H' : Hp) (ws : List V) (L : List (Int × Nat)), Same H H' → H' r = some (.tup ws) → Pairs H' ws L → Parts n L → Q (.ref r) H'
theorem c_pparts (D : At K mg "prime_parts" sPparts ["number"]) (mT : mg "tuple" = none) : Cl P w K mg base 1 "prime_parts" ["number"] spPparts := by
  refine D.ok scPparts (fun vs H Q E h => ?_) (fun f cdv A outer s H vs Q E hr h => ?_)
  · obtain ⟨_, rfl, _⟩ := h
    rfl
  obtain ⟨n, rfl, n0, n1, q⟩ := h
  have nd := scPparts.nd
  have nB : n ≤ 1073741824 := Int.le_trans n1 (by decide)
  refine ⟨_, pss_cons (ps_set (i := 1) nd rfl (.inl rfl) (pe_lst pa_nil))
    (pss_cons (ps_set (i := 2) nd rfl (.inl rfl) (pv 0))
    (pss_cons (ps_set (i := 3) nd rfl (.inl rfl) pe_int)
    (pss_cons (ps_while PassesOwn.never (pt_cmpR op_le (pe_op op_mulW (pv 3) (pv 3)) (pv 2) (nomark _))
      (pss_cons (ps_set (i := 4) nd rfl (.inl rfl) pe_int)
      (pss_cons (ps_while PassesOwn.never (pt_cmpR op_eq (pe_op op_mod (pv 2) (pv 3)) pe_int (nomark _))
        (pss_cons (ps_set (i := 2) nd rfl (.inl rfl) (pe_op op_fdivW (pv 2) (pv 3)))
        (pss_one (ps_set (i := 4) nd rfl (.inl rfl) (pe_op op_add (pv 4) pe_int)))))
      (pss_cons (ps_if (pt_cmpR op_gt (pv 4) pe_int (nomark _))
        (pss_one (ps_expr (pe_bm PySem.F.plainAttrs_list PySem.F.slot_list_append PySem.F.type_list_append mt_append (pv 1) (pa_cons (pe_tup (pa_cons (pv 3) (pa_cons (pv 4) pa_nil))) pa_nil)))) pss_nil)
      (pss_one (ps_set (i := 3) nd rfl (.inl rfl) (pe_op op_add (pv 3) pe_int)))))))
    (pss_cons (ps_if (pt_cmpR op_gt (pv 2) pe_int (nomark _))
      (pss_one (ps_expr (pe_bm PySem.F.plainAttrs_list PySem.F.slot_list_append PySem.F.type_list_append mt_append (pv 1) (pa_cons (pe_tup (pa_cons (pv 2) (pa_cons pe_int pa_nil))) pa_nil)))) pss_nil)
    (pss_one (ps_ret (pe_callTy call_tuple_of (by rfl) mT (by decide +kernel) (pa_cons (pv 1) pa_nil)))))))), ?_⟩
  refine ⟨Nat.zero_le _, fun a ha => ?_⟩
  refine ⟨_, rfl, ?_⟩
  refine while_by (fun σ H' => ∃ (vs : List V) (L : List (Int × Nat)) (left p : Int) (z : Option V), σ = [some (.int n), some (.ref a), some (.int left), some (.int p), z] ∧ Pt n L left p ∧ p ≤ n + 1 ∧ Fnd H a vs L H')
    (fun σ _ => n.toNat + 2 - slotN 3 σ)
    ⟨[], [], n, 2, none, rfl, .start n0, by omega, .start ha⟩ ?_ ?_
  · rintro σ H' ⟨vs, L, left, p, z, rfl, T, pn, Fn⟩
    have p2 := T.p2
    have l1 := T.l1
    have ll := T.leftLe
    have wp : p.natAbs < 2 ^ 200 := b200 (by have : (0:Int) ≤ M30 := by decide
                                             omega) (by have : M9 + 1 ≤ M30 := by decide
                                                        omega)
    refine ⟨_, rfl, _, rfl, p, p, rfl, rfl, mulOk wp wp, _, rfl, p * p, left, rfl, rfl, _, rfl, ite2 (fun c => ?_) (fun c => ?_)⟩
    · have sq : p * p ≤ left := of_decide_eq_true c
      have pl := Pt.sqLe p2 sq
      -- often = 0, the inner loop
      refine while_by (fun σ H2 => H2 = H' ∧ ∃ (l : Int) (e : Nat), σ = [some (.int n), some (.ref a), some (.int l), some (.int p), some (.int (e : Int))] ∧ Pin left p l e)
        (fun σ _ => slotN 2 σ) ⟨rfl, left, 0, rfl, .start l1⟩ ?_ ?_
      · rintro σ H2 ⟨rfl, l, e, rfl, I⟩
        have il := I.leftLe p2
        have i1 := I.l1
        refine ⟨_, rfl, _, rfl, l, p, rfl, rfl, (by omega), rfl, _, rfl, ite2 (fun c2 => ?_) (fun c2 => ?_)⟩
        · have hd : l % p = 0 := V.int.inj (of_decide_eq_true c2)
          have I2 := I.turn p2 hd
          refine ⟨_, rfl, _, rfl, l, p, rfl, rfl, divOk (by omega) wp, ?_⟩
          refine ⟨_, rfl, (e : Int), 1, rfl, rfl, ?_⟩
          refine ⟨⟨rfl, l / p, e + 1, rfl, I2.1⟩, ?_⟩
          show (l / p).toNat < l.toNat
          have := I2.2
          omega
        · have hd : l % p ≠ 0 := fun z => c2 (decide_eq_true (congrArg V.int z))
          have mu : ∀ q : Int, q = p + 1 → n.toNat + 2 - q.toNat < n.toNat + 2 - p.toNat := fun q hq => by omega
          -- if often > 0
          refine ⟨_, rfl, (e : Int), 0, rfl, rfl, _, rfl, ite2 (fun c3 => ?_) (fun c3 => ?_)⟩
          · have e1 : (0 : Int) < (e : Int) := of_decide_eq_true c3
            have T2 := T.turn1 I (by omega) hd
            refine ⟨.ref a, rfl, .inl ⟨rfl, _, SqL.of Fn.at_⟩, _, rfl, _, rfl, (by show 2 ≤ sizeLine; decide), fun t ht => ?_⟩
            have nat : a ≠ t := ne_of_none Fn.at_ ht
            refine ⟨a, vs, .ref t, rfl, rfl, ?_, ?_, ?_⟩
            · rw [upd_ne nat]
              exact Fn.at_
            · rw [Fn.pairs.length]
              exact small30 (T.lenLe nB)
            · refine ⟨_, rfl, p, 1, rfl, rfl, ?_⟩
              exact ⟨⟨_, _, l, p + 1, _, rfl, T2, by omega, Fn.app ht (p, e) rfl⟩, mu _ rfl⟩
          · have e0 : ¬ (0 : Int) < (e : Int) := fun z => c3 (decide_eq_true z)
            have ez : e = 0 := by omega
            subst ez
            have T2 := T.turn0 I hd
            refine ⟨_, rfl, p, 1, rfl, rfl, ?_⟩
            exact ⟨⟨vs, L, l, p + 1, _, rfl, T2, by omega, Fn⟩, mu _ rfl⟩
      · rintro σ H' Q1 Q2 h12 ⟨v, e, v2, e2, i, j, e3, e4, hc, hs, k, e5, q3⟩
        exact ⟨v, e, v2, e2, i, j, e3, e4, hc, hs, k, e5, h12 _ _ q3⟩
    · have sq : ¬ p * p ≤ left := fun z => c (decide_eq_true z)
      -- if left > 1
      refine ⟨_, rfl, left, 1, rfl, rfl, _, rfl, ite2 (fun c3 => ?_) (fun c3 => ?_)⟩
      · have l2 : (1 : Int) < left := of_decide_eq_true c3
        refine ⟨.ref a, rfl, .inl ⟨rfl, _, SqL.of Fn.at_⟩, _, rfl, (by show 2 ≤ sizeLine; decide), fun t ht => ?_⟩
        have nat : a ≠ t := ne_of_none Fn.at_ ht
        refine ⟨a, vs, .ref t, rfl, rfl, ?_, ?_, ?_⟩
        · rw [upd_ne nat]
          exact Fn.at_
        · rw [Fn.pairs.length]
          exact small30 (T.lenLe nB)
        · have F2 := Fn.app ht (left, 1) rfl
          refine ⟨_, rfl, a, _, rfl, .inl ⟨SqL.of F2.at_, fun r nr => ?_⟩⟩
          have s2 := F2.same.trans (same_new (o := .tup (vs ++ [.ref t])) nr)
          exact q r _ _ _ s2 upd_same (F2.pairs.same (same_new nr)) (T.done2 l2 (by omega))
      · have l2 : ¬ (1 : Int) < left := fun z => c3 (decide_eq_true z)
        have le : left = 1 := by omega
        subst le
        refine ⟨_, rfl, a, _, rfl, .inl ⟨SqL.of Fn.at_, fun r nr => ?_⟩⟩
        exact q r _ _ _ (Fn.same.trans (same_new nr)) upd_same (Fn.pairs.same (same_new nr)) T.done1
  · rintro σ H' Q1 Q2 h12 ⟨v, e, v2, e2, i, j, e3, e4, hc, v3, e5, i2, j2, e6, e7, k, e8, q3⟩
    exact ⟨v, e, v2, e2, i, j, e3, e4, hc, v3, e5, i2, j2, e6, e7, k, e8, h12 _ _ q3⟩
/-- whether it is a prime -/
def spTold : Sp := fun vs H Q _ => ∃ n : Int, vs = [.int n] ∧ 1 ≤ n ∧ n ≤ M9 ∧ ∀ (b : Bool) (H' : Hp), Same H H' → (b = true ↔ Pr n) → Q (.bl b) H'
theorem no_pr1 : ¬ Pr 1 := fun h => by
  have := h.two
  omega
theorem c_told (D : At K mg "is_told_prime" sTold ["number"]) (CP : Cl P w K mg base 1 "prime_parts" ["number"] spPparts) : Cl P w K mg base 2 "is_told_prime" ["number"] spTold := by
  refine D.ok scTold (fun vs H Q E h => ?_) (fun f cdv A outer s H vs Q E hr h => ?_)
  · obtain ⟨_, rfl, _⟩ := h
    rfl
  obtain ⟨n, rfl, n0, n1, q⟩ := h
  refine ⟨_, pss_one (ps_ret (pe_and (pe_cmpR op_gt (pv 0) pe_int (nomark _)) (pe_one (pe_cmpR (op_eqD hr.units) (pcl CP hr (by rfl) (pa_cons (pv 0) pa_nil)) (pe_tup (pa_cons (pe_tup (pa_cons (pv 0) (pa_cons pe_int pa_nil))) pa_nil)) (nomark _))))), ?_⟩
  refine ⟨_, rfl, n, 1, rfl, rfl, _, rfl, ite2 (fun c => ?_) (fun c => ?_)⟩
  · have n2 : 1 < n := of_decide_eq_true c
    refine ⟨_, rfl, n, rfl, n0, n1, fun r H1 ws L s1 hr1 hp hL => ?_⟩
    refine ⟨_, rfl, (by show 2 ≤ sizeLine; decide), fun t ht => ?_⟩
    refine ⟨(by show 1 ≤ sizeLine; decide), fun u hu => ?_⟩
    have s2 : Same H1 (upd H1 t (.tup [.int n, .int 1])) := same_new ht
    have s3 : Same (upd H1 t (.tup [.int n, .int 1])) (upd (upd H1 t (.tup [.int n, .int 1])) u (.tup [.ref t])) := same_new hu
    refine ⟨.tuple (L.map dat), .tuple ([((n : Int), 1)].map dat), .tup (SqT.of (s3 _ _ (s2 _ _ hr1))) (dp_pairs ((hp.same s2).same s3)),
      .tup (SqT.of upd_same) (.cons (.tup (SqT.of (s3 _ _ upd_same)) (.cons (.int _) (.cons (.int _) .nil))) .nil), dat_tup L, dat_tup _, ?_⟩
    refine q _ _ (s1.trans (s2.trans s3)) ?_
    show PyData.eqvAll (L.map dat) [dat (n, 1)] = true ↔ Pr n
    rw [dat_eq, decide_eq_true_iff]
    exact hL.prime (by omega)
  · have n2 : ¬ 1 < n := fun z => c (decide_eq_true z)
    have e1 : n = 1 := by omega
    subst e1
    exact q false H (Same.refl H) ⟨(fun z => by cases z), fun z => absurd z no_pr1⟩
theorem c_isP {t : Tok} (D : At K mg "is_prime" sIsP ["number"]) (mM : mg "MOST_TRIED" = some (.int M9 t)) (CB : Cl P w K mg base 3 "need_between" ["thing", "low", "high"] spNeedB) (CT : Cl P w K mg base 2 "is_told_prime" ["number"] spTold) : Cl P w K mg base 4 "is_prime" ["number"] spTold := by
  refine D.ok scIsP (fun vs H Q E h => ?_) (fun f cdv A outer s H vs Q E hr h => ?_)
  · obtain ⟨_, rfl, _⟩ := h
    rfl
  obtain ⟨n, rfl, n0, n1, q⟩ := h
  refine ⟨_, pss_cons (ps_expr (pcl CB hr (by rfl) (pa_cons (pv 0) (pa_cons pe_int (pa_cons (pe_glob (v := .int M9) (by rfl) mM ⟨_, rfl⟩) pa_nil)))))
    (pss_one (ps_ret (pcl CT (hr.mono (by decide)) (by rfl) (pa_cons (pv 0) pa_nil)))), ?_⟩
  refine ⟨_, rfl, n, 0, M9, rfl, by omega, n1, ?_⟩
  exact ⟨_, rfl, n, rfl, n0, n1, q⟩
theorem c_partsOf {t : Tok} (D : At K mg "parts_of" sPartsOf ["number"]) (mM : mg "MOST_TRIED" = some (.int M9 t)) (CB : Cl P w K mg base 3 "need_between" ["thing", "low", "high"] spNeedB) (CP : Cl P w K mg base 1 "prime_parts" ["number"] spPparts) : Cl P w K mg base 4 "parts_of" ["number"] spPparts := by
  refine D.ok scPartsOf (fun vs H Q E h => ?_) (fun f cdv A outer s H vs Q E hr h => ?_)
  · obtain ⟨_, rfl, _⟩ := h
    rfl
  obtain ⟨n, rfl, n0, n1, q⟩ := h
  refine ⟨_, pss_cons (ps_expr (pcl CB hr (by rfl) (pa_cons (pv 0) (pa_cons pe_int (pa_cons (pe_glob (v := .int M9) (by rfl) mM ⟨_, rfl⟩) pa_nil)))))
    (pss_one (ps_ret (pcl CP (hr.mono (by decide)) (by rfl) (pa_cons (pv 0) pa_nil)))), ?_⟩
  refine ⟨_, rfl, n, 1, M9, rfl, n0, n1, ?_⟩
  exact ⟨_, rfl, n, rfl, n0, n1, q⟩
end
end K04
namespace K04
open PySem PySem.Spec PyProof.Rows L2
/-! ### the law's own state: a list of two ints that its draws change -/
structure Sta (H : Hp) (p : Addr) : Prop where
  ex : ∃ x y : Int, H p = some (.lst [.int x, .int y]) ∧ 0 ≤ x ∧ 0 ≤ y ∧ y ≤ 2147483647
/-- all but p stands as it stood -/
def Chg (H H' : Hp) (p : Addr) : Prop := ∀ (b : Addr) (o : HO), b ≠ p → H b = some o → H' b = some o
theorem Chg.refl (H : Hp) (p : Addr) : Chg H H p := fun _ _ _ q => q
theorem Chg.trans {H H1 H2 : Hp} {p : Addr} (a : Chg H H1 p) (b : Chg H1 H2 p) : Chg H H2 p := fun c o n q => b c o n (a c o n q)
theorem Chg.upd {H : Hp} {p : Addr} {o : HO} : Chg H (upd H p o) p := fun b u n q => by
  rw [upd_ne n]
  exact q
theorem Chg.of {H H' : Hp} {p : Addr} (s : Same H H') : Chg H H' p := fun b o _ q => s b o q
theorem Chg.same {H0 H H' : Hp} {p : Addr} (s : Same H0 H) (n : H0 p = none) (c : Chg H H' p) : Same H0 H' := fun b o q => c b o (ne_of_none q n) (s b o q)
theorem Sta.same {H H' : Hp} {p : Addr} (h : Sta H p) (s : Same H H') : Sta H' p := by
  obtain ⟨x, y, e, r⟩ := h.ex
  exact ⟨x, y, s _ _ e, r⟩
theorem one_at {ns : List Int} {k : Int} (h0 : 0 ≤ k) (h : k < (ns.length : Int)) : ∃ v : Int, atI (ns.map V.int) k = some (.int v) := by
  have hk : k.toNat < ns.length := by omega
  have ek : k = ((k.toNat : Nat) : Int) := by omega
  have q : atI (ns.map V.int) ((k.toNat : Nat) : Int) = some (.int ns[k.toNat]) := atI_nat (by rw [List.getElem?_map, List.getElem?_eq_getElem hk] <;> rfl)
  rw [← ek] at q
  exact ⟨_, q⟩
theorem pick6 {a b c d e f k : Int} (h0 : 0 ≤ k) (h : k < 6) (ha : 1 ≤ a ∧ a ≤ M30) (hb : 1 ≤ b ∧ b ≤ M30) (hc : 1 ≤ c ∧ c ≤ M30) (hd : 1 ≤ d ∧ d ≤ M30) (he : 1 ≤ e ∧ e ≤ M30) (hf : 1 ≤ f ∧ f ≤ M30) :
    ∃ v : Int, atI ([.int a, .int b, .int c, .int d, .int e, .int f] : List V) k = some (.int v) ∧ 1 ≤ v ∧ v ≤ M30 := by
  have z : k = 0 ∨ k = 1 ∨ k = 2 ∨ k = 3 ∨ k = 4 ∨ k = 5 := by omega
  rcases z with rfl | rfl | rfl | rfl | rfl | rfl
  · exact ⟨a, rfl, ha⟩
  · exact ⟨b, rfl, hb⟩
  · exact ⟨c, rfl, hc⟩
  · exact ⟨d, rfl, hd⟩
  · exact ⟨e, rfl, he⟩
  · exact ⟨f, rfl, hf⟩
theorem pick4 {a b c d k : Int} (h0 : 0 ≤ k) (h : k < 4) (ha : -M30 ≤ a ∧ a ≤ M30) (hb : -M30 ≤ b ∧ b ≤ M30) (hc : -M30 ≤ c ∧ c ≤ M30) (hd : -M30 ≤ d ∧ d ≤ M30) :
    ∃ v : Int, atI ([.int a, .int b, .int c, .int d] : List V) k = some (.int v) ∧ -M30 ≤ v ∧ v ≤ M30 := by
  have z : k = 0 ∨ k = 1 ∨ k = 2 ∨ k = 3 := by omega
  rcases z with rfl | rfl | rfl | rfl
  · exact ⟨a, rfl, ha⟩
  · exact ⟨b, rfl, hb⟩
  · exact ⟨c, rfl, hc⟩
  · exact ⟨d, rfl, hd⟩
theorem modB {a m : Int} (h : 0 < m) (h2 : m < 2 ^ 64) : -(2 ^ 64) < a % m ∧ a % m < 2 ^ 64 := by
  have h0 := Int.emod_nonneg a (show m ≠ 0 by omega)
  have h1 := Int.emod_lt_of_pos a h
  omega
theorem m9_m30 : M9 + 1 ≤ M30 := by decide
theorem m30_1 : (1 : Int) ≤ M30 := by decide
theorem m30_p : (10 : Int) ^ (Int.toNat 30) = M30 := by decide +kernel
theorem m30_a : (10 : Int) ^ (Int.toNat 12) = 1000000000000 := by decide +kernel
theorem m30_b : (10 : Int) ^ (Int.toNat 4) = 10000 := by decide +kernel
theorem m30_c : (10 : Int) ^ (Int.toNat 29) = 100000000000000000000000000000 := by decide +kernel
theorem m30_d : (10 : Int) ^ (Int.toNat 6) = 1000000 := by decide +kernel
theorem m30_e : (10 : Int) ^ (Int.toNat 8) = 100000000 := by decide +kernel
theorem cpow {j : Int} (h0 : 0 ≤ j) (h1 : j ≤ 1000000) : CPow 10 j := ⟨h0, h1, by decide⟩
section
variable {P : Program} {w : World} {K : PySem.W.Frag} {mg : Str → Option Value} {base : Heap}
def spCell (K : PySem.W.Frag) : Sp := fun vs H Q _ => ∃ (a : Addr) (ns : List Int) (k : Int), vs = [.ref a, .int k] ∧ SqL K H a (ns.map V.int) ∧ 0 ≤ k ∧ ∀ c : Int, Q (.int c) H
theorem c_cell (D : At K mg "_law_cell_at" sCell ["_law_script", "_law_k"]) (ml : mg "len" = none) : Cl P w K mg base 1 "_law_cell_at" ["_law_script", "_law_k"] (K04.spCell K) := by
  refine D.ok scCell (fun vs H Q E h => ?_) (fun f cdv A outer s H vs Q E hr h => ?_)
  · obtain ⟨_, _, _, rfl, _⟩ := h
    rfl
  obtain ⟨a, ns, k, rfl, hS, k0, q⟩ := h
  refine ⟨_, pss_cons (ps_if (pt_cmpR op_lt (pv 1) (pe_callB call_len_seq (by rfl) ml PySem.boot_len (pa_cons (pv 0) pa_nil)) (nomark _)) (pss_one (ps_ret (pe_ix ix_list (pv 0) (pv 1) (fun _ _ => rfl)))) pss_nil)
    (pss_one (ps_ret pe_int)), ?_⟩
  refine ⟨_, rfl, _, rfl, a, _, rfl, .inl hS, _, _, rfl, rfl, _, rfl, ite2 (fun c => ?_) (fun c => ?_)⟩
  · have c' : k < (((ns.map V.int).length : Nat) : Int) := of_decide_eq_true c
    rw [List.length_map] at c'
    obtain ⟨v, hv⟩ := one_at k0 c'
    exact ⟨_, rfl, _, rfl, a, _, _, _, rfl, rfl, hS, hv, q v⟩
  · exact q 0
def spState (K : PySem.W.Frag) : Sp := fun vs H Q _ => ∃ (a : Addr) (ns : List Int) (k : Int), vs = [.ref a, .int k] ∧ SqL K H a (ns.map V.int) ∧ 0 ≤ k ∧ ∀ (p : Addr) (H' : Hp), H p = none → Same H H' → Sta H' p → Q (.ref p) H'
theorem c_state (D : At K mg "_law_state" sState ["_law_script", "_law_k"]) (CC : Cl P w K mg base 1 "_law_cell_at" ["_law_script", "_law_k"] (K04.spCell K)) : Cl P w K mg base 2 "_law_state" ["_law_script", "_law_k"] (spState K) := by
  refine D.ok scState (fun vs H Q E h => ?_) (fun f cdv A outer s H vs Q E hr h => ?_)
  · obtain ⟨_, _, _, rfl, _⟩ := h
    rfl
  obtain ⟨a, ns, k, rfl, hS, k0, q⟩ := h
  have nd := scState.nd
  refine ⟨_, pss_cons (ps_set (i := 2) nd rfl (.inl rfl) (pcl CC hr (by rfl) (pa_cons (pv 0) (pa_cons (pv 1) pa_nil))))
    (pss_cons (ps_if (pt_cmpR op_ge (pv 2) (pe_op op_pow pe_int pe_int) (nomark _))
      (pss_one (ps_ret (pe_lst (pa_cons (pe_op op_sub (pv 2) (pe_op op_pow pe_int pe_int)) (pa_cons (pe_op op_add (pe_op op_mod (pv 2) pe_int) pe_int) pa_nil))))) pss_nil)
    (pss_one (ps_ret (pe_lst (pa_cons pe_int (pa_cons (pe_op op_add (pe_op op_mod (pv 2) pe_int) pe_int) pa_nil)))))), ?_⟩
  refine ⟨_, rfl, _, rfl, a, ns, k, rfl, hS, k0, fun c => ?_⟩
  refine ⟨_, rfl, 10, 18, rfl, rfl, cpow (by decide) (by decide), c, _, rfl, rfl, _, rfl, ite2 (fun g => ?_) (fun g => ?_)⟩
  · have g2 : (10 : Int) ^ (Int.toNat 18) ≤ c := of_decide_eq_true g
    refine ⟨_, rfl, 10, 18, rfl, rfl, cpow (by decide) (by decide), c, _, rfl, rfl, _, rfl, c, 2147483629, rfl, rfl, (by show (0 : Int) < 2147483629; decide), _, 1, rfl, rfl, (by show 2 ≤ sizeLine; decide), fun p hp => ?_⟩
    refine q p _ hp (same_new hp) ⟨_, _, upd_same, Int.sub_nonneg_of_le g2, ?_, ?_⟩
    · have := Int.emod_nonneg c (show (2147483629 : Int) ≠ 0 by decide)
      omega
    · have := Int.emod_lt_of_pos c (show (0 : Int) < 2147483629 by decide)
      omega
  · refine ⟨_, rfl, c, 2147483647, rfl, rfl, (by show (0 : Int) < 2147483647; decide), _, 1, rfl, rfl, (by show 2 ≤ sizeLine; decide), fun p hp => ?_⟩
    refine q p _ hp (same_new hp) ⟨_, _, upd_same, Int.le_refl 0, ?_, ?_⟩
    · have := Int.emod_nonneg c (show (2147483647 : Int) ≠ 0 by decide)
      omega
    · have := Int.emod_lt_of_pos c (show (0 : Int) < 2147483647 by decide)
      omega
/-- a draw below many -/
def spDraw : Sp := fun vs H Q _ => ∃ (p : Addr) (many : Int), vs = [.ref p, .int many] ∧ 0 < many ∧ many ≤ M30 ∧ Sta H p ∧ ∀ (v : Int) (H' : Hp), 0 ≤ v → v < many → Chg H H' p → Sta H' p → Q (.int v) H'
theorem c_take (D : At K mg "_law_take" sTake ["_law_state_here", "_law_many"]) : Cl P w K mg base 1 "_law_take" ["_law_state_here", "_law_many"] spDraw := by
  refine D.ok scTake (fun vs H Q E h => ?_) (fun f cdv A outer s H vs Q E hr h => ?_)
  · obtain ⟨_, _, rfl, _⟩ := h
    rfl
  obtain ⟨p, many, rfl, m0, m1, St0, q⟩ := h
  obtain ⟨x, y, hp, x0, y0, y1⟩ := St0.ex
  have nd := scTake.nd
  refine ⟨_, pss_cons (ps_if (pt_cmpR op_gt (pe_ix ix_list (pv 0) pe_int (fun _ _ => rfl)) pe_int (nomark _))
      (pss_cons (ps_set (i := 2) nd rfl (.inl rfl) (pe_op op_mod (pe_ix ix_list (pv 0) pe_int (fun _ _ => rfl)) (pv 1)))
      (pss_cons (ps_asg (pe_op op_fdivW (pe_ix ix_list (pv 0) pe_int (fun _ _ => rfl)) (pv 1)) (pg_sub (pv 0) pe_int set_list))
      (pss_one (ps_ret (pv 2))))) pss_nil)
    (pss_cons (ps_asg (pe_op op_mod (pe_op op_add (pe_op op_mul (pe_ix ix_list (pv 0) pe_int (fun _ _ => rfl)) pe_int) pe_int) pe_int) (pg_sub (pv 0) pe_int set_list))
    (pss_cons (ps_set (i := 3) nd rfl (.inl rfl) (pe_op op_mod (pe_op op_add (pe_op op_add (pe_op op_mul (pe_ix ix_list (pv 0) pe_int (fun _ _ => rfl)) (pe_ix ix_list (pv 0) pe_int (fun _ _ => rfl)))
        (pe_op op_mul pe_int (pe_ix ix_list (pv 0) pe_int (fun _ _ => rfl)))) pe_int) pe_int))
    (pss_cons (ps_set (i := 3) nd rfl (.inl rfl) (pe_op op_mod (pe_op op_add (pe_op op_mul (pv 3) (pv 3)) (pe_op op_mul pe_int (pv 3))) pe_int))
    (pss_one (ps_ret (pe_op op_mod (pe_op op_fdiv (pv 3) pe_int) (pv 1))))))), ?_⟩
  have wm : many.natAbs < 2 ^ 200 := b200 (by have := m30_1; omega) m1
  refine ⟨_, rfl, p, _, 0, .int x, rfl, rfl, SqL.of hp, atI_nat (j := 0) rfl, x, 0, rfl, rfl, _, rfl, ite2 (fun c => ?_) (fun c => ?_)⟩
  · refine ⟨_, rfl, p, _, 0, .int x, rfl, rfl, SqL.of hp, atI_nat (j := 0) rfl, _, rfl, x, many, rfl, rfl, m0, ?_⟩
    refine ⟨_, rfl, p, _, 0, .int x, rfl, rfl, SqL.of hp, atI_nat (j := 0) rfl, _, rfl, x, many, rfl, rfl, divOk m0 wm, ?_⟩
    refine ⟨_, rfl, p, _, 0, 0, rfl, rfl, hp, rfl, ?_⟩
    refine ⟨_, rfl, ?_⟩
    exact q _ _ (Int.emod_nonneg x (by omega)) (Int.emod_lt_of_pos x m0) Chg.upd ⟨x / many, y, upd_same, Int.ediv_nonneg x0 (by omega), y0, y1⟩
  · refine ⟨_, rfl, p, _, 1, .int y, rfl, rfl, SqL.of hp, atI_nat (j := 1) rfl, y, 48271, rfl, rfl, .inr ⟨by decide, by decide⟩, _, 29, rfl, rfl, _, 2147483647, rfl, rfl, (by show (0 : Int) < 2147483647; decide), ?_⟩
    refine ⟨_, rfl, p, _, 1, 1, rfl, rfl, hp, rfl, ?_⟩
    have hx : ∀ v : V, upd H p (.lst (([.int x, .int y] : List V).set 1 v)) p = some (.lst [.int x, v]) := fun v => by
      rw [upd_same] <;> rfl
    refine ⟨_, rfl, p, _, 1, _, rfl, rfl, SqL.of (hx _), atI_nat (j := 1) rfl, _, rfl, p, _, 1, _, rfl, rfl, SqL.of (hx _), atI_nat (j := 1) rfl, _, _, rfl, rfl, .inl (modB (by decide) (by decide)),
      _, rfl, p, _, 1, _, rfl, rfl, SqL.of (hx _), atI_nat (j := 1) rfl, 39373, _, rfl, rfl, .inl ⟨by decide, by decide⟩, _, _, rfl, rfl, _, 7, rfl, rfl, _, 2147483629, rfl, rfl, (by show (0 : Int) < 2147483629; decide), ?_⟩
    refine ⟨_, rfl, _, rfl, _, _, rfl, rfl, .inl (modB (by decide) (by decide)), _, rfl, 16807, _, rfl, rfl, .inl ⟨by decide, by decide⟩, _, _, rfl, rfl, _, 2147483587, rfl, rfl, (by show (0 : Int) < 2147483587; decide), ?_⟩
    refine ⟨_, rfl, _, 8, rfl, rfl, ⟨by decide, by decide⟩, _, rfl, _, many, rfl, rfl, m0, ?_⟩
    refine q _ _ (Int.emod_nonneg _ (by omega)) (Int.emod_lt_of_pos _ m0) Chg.upd ⟨x, (y * 48271 + 29) % 2147483647, hx _, x0, Int.emod_nonneg _ (by decide), ?_⟩
    have := Int.emod_lt_of_pos (y * 48271 + 29) (show (0 : Int) < 2147483647 by decide)
    omega
theorem c_far (D : At K mg "_law_far" sFar ["_law_state_here", "_law_many"]) (mR : mg "range" = none) (CT : Cl P w K mg base 1 "_law_take" ["_law_state_here", "_law_many"] spDraw) : Cl P w K mg base 2 "_law_far" ["_law_state_here", "_law_many"] spDraw := by
  refine D.ok scFar (fun vs H Q E h => ?_) (fun f cdv A outer s H vs Q E hr h => ?_)
  · obtain ⟨_, _, rfl, _⟩ := h
    rfl
  obtain ⟨p, many, rfl, m0, m1, St0, q⟩ := h
  have nd := scFar.nd
  refine ⟨_, pss_cons (ps_set (i := 2) nd rfl (.inl rfl) pe_int)
    (pss_cons (ps_for PassesOwn.never rfl (pi_range1 rfl mR (pa_cons pe_int pa_nil)) (pg_name (i := 3) nd rfl (.inl rfl))
      (pss_one (ps_set (i := 2) nd rfl (.inl rfl) (pe_op op_add (pe_op op_mul (pv 2) pe_int) (pcl CT hr (by rfl) (pa_cons (pv 0) (pa_cons pe_int pa_nil)))))))
    (pss_one (ps_ret (pe_op op_mod (pv 2) (pv 1))))), ?_⟩
  refine ⟨4, rfl, by decide, by decide, for_range (lo := 0) (n := 4) (fun i σ H' => ∃ (z : Int) (t : Option V), σ = [some (.ref p), some (.int many), some (.int z), t] ∧ Chg H H' p ∧ Sta H' p) ⟨0, none, rfl, Chg.refl H p, St0⟩ ?_ ?_⟩
  · rintro i σ H' hi ⟨z, t, rfl, c1, s1⟩
    refine ⟨_, rfl, z, 1000000007, rfl, rfl, .inr ⟨by decide, by decide⟩, _, rfl, p, 1000000007, rfl, by decide, by decide, s1, fun v H2 v0 v1 c2 s2 => ?_⟩
    exact ⟨_, _, rfl, rfl, _, _, rfl, c1.trans c2, s2⟩
  · rintro σ H' ⟨z, t, rfl, c1, s1⟩
    refine ⟨_, rfl, _, rfl, z, many, rfl, rfl, m0, ?_⟩
    exact q _ _ (Int.emod_nonneg _ (by omega)) (Int.emod_lt_of_pos _ m0) c1 s1
/-- a number -/
def spNumber : Sp := fun vs H Q _ => ∃ p : Addr, vs = [.ref p] ∧ Sta H p ∧ ∀ (v : Int) (H' : Hp), 1 ≤ v → v ≤ M30 → Chg H H' p → Sta H' p → Q (.int v) H'
theorem c_number (D : At K mg "_law_number" sNumber ["_law_state_here"]) (CT : Cl P w K mg base 1 "_law_take" ["_law_state_here", "_law_many"] spDraw) (CF : Cl P w K mg base 2 "_law_far" ["_law_state_here", "_law_many"] spDraw) : Cl P w K mg base 3 "_law_number" ["_law_state_here"] spNumber := by
  refine D.ok scNumber (fun vs H Q E h => ?_) (fun f cdv A outer s H vs Q E hr h => ?_)
  · obtain ⟨_, rfl, _⟩ := h
    rfl
  obtain ⟨p, rfl, St0, q⟩ := h
  have nd := scNumber.nd
  have hr1 := hr.mono (show 1 ≤ 2 by decide)
  refine ⟨_, pss_cons (ps_set (i := 1) nd rfl (.inl rfl) (pcl CT hr1 (by rfl) (pa_cons (pv 0) (pa_cons pe_int pa_nil))))
    (pss_cons (ps_set (i := 2) nd rfl (.inl rfl) (pe_lst (pa_cons (pe_op op_add pe_int (pcl CT hr1 (by rfl) (pa_cons (pv 0) (pa_cons pe_int pa_nil))))
      (pa_cons (pe_op op_add pe_int (pcl CT hr1 (by rfl) (pa_cons (pv 0) (pa_cons (pe_op op_pow pe_int pe_int) pa_nil))))
      (pa_cons (pe_op op_add pe_int (pcl CF hr (by rfl) (pa_cons (pv 0) (pa_cons (pe_op op_pow pe_int pe_int) pa_nil)))) pa_nil)))))
    (pss_one (ps_ret (pe_ix ix_list (pe_op op_cat (pv 2) (pe_lst (pa_cons pe_int (pa_cons (pe_op op_pow pe_int pe_int) (pa_cons (pe_op op_add pe_int (pcl CF hr (by rfl) (pa_cons (pv 0) (pa_cons (pe_op op_pow pe_int pe_int) pa_nil)))) pa_nil))))) (pv 1) (fun _ _ => rfl))))), ?_⟩
  refine ⟨_, rfl, p, 6, rfl, by decide, by decide, St0, fun way H1 w0 w1 c1 s1 => ?_⟩
  refine ⟨_, rfl, p, 30, rfl, by decide, by decide, s1, fun a H2 a0 a1 c2 s2 => ⟨1, a, rfl, rfl, ?_⟩⟩
  refine ⟨_, rfl, 10, 4, rfl, rfl, cpow (by decide) (by decide), p, _, rfl, (by rw [m30_b]; decide), (by rw [m30_b]; decide), s2, fun b H3 b0 b1 c3 s3 => ⟨1, b, rfl, rfl, ?_⟩⟩
  refine ⟨_, rfl, 10, 30, rfl, rfl, cpow (by decide) (by decide), p, _, rfl, (by rw [m30_p]; decide), (by rw [m30_p]; decide), s3, fun c H4 c0 c1' c4 s4 => ⟨1, c, rfl, rfl, ?_⟩⟩
  rw [m30_b] at b1
  rw [m30_p] at c1'
  refine ⟨(by show 3 ≤ sizeLine; decide), fun l hl => ?_⟩
  have nlp : l ≠ p := fun z => by
    obtain ⟨_, _, e, _⟩ := s4.ex
    rw [← z, hl] at e
    cases e
  have s5 : Sta (upd H4 l (.lst [.int (1 + a), .int (1 + b), .int (1 + c)])) p := s4.same (same_new hl)
  refine ⟨_, rfl, 10, 30, rfl, rfl, cpow (by decide) (by decide), _, rfl, 10, 12, rfl, rfl, cpow (by decide) (by decide), p, _, rfl, (by rw [m30_a]; decide), (by rw [m30_a]; decide), s5, fun d H6 d0 d1 c6 s6 => ⟨1, d, rfl, rfl, (by show 3 ≤ sizeLine; decide), fun l2 hl2 => ?_⟩⟩
  rw [m30_a] at d1
  show rCat _ _ (upd H6 l2 (.lst [.int 1, .int ((10 : Int) ^ (Int.toNat 30)), .int (1 + d)])) _
  rw [m30_p]
  have e6 : H6 l = some (.lst [.int (1 + a), .int (1 + b), .int (1 + c)]) := c6 l _ nlp upd_same
  have g7 : Same H6 (upd H6 l2 (.lst [.int 1, .int M30, .int (1 + d)])) := same_new hl2
  refine ⟨l, l2, _, _, rfl, rfl, g7 _ _ e6, upd_same, (by show 3 + 3 ≤ sizeLine; decide), fun r hr2 => ?_⟩
  have g8 := same_new (o := .lst (([.int (1 + a), .int (1 + b), .int (1 + c)] : List V) ++ [.int 1, .int M30, .int (1 + d)])) hr2
  have eM : M30 = 1000000000000000000000000000000 := rfl
  obtain ⟨v, hv, v0, v1⟩ := pick6 (a := 1 + a) (b := 1 + b) (c := 1 + c) (d := 1) (e := M30) (f := 1 + d) w0 w1 ⟨by omega, by omega⟩ ⟨by omega, by omega⟩ ⟨by omega, by omega⟩ ⟨by omega, by omega⟩ ⟨by omega, by omega⟩ ⟨by omega, by omega⟩
  refine ⟨_, rfl, r, _, way, .int v, rfl, rfl, SqL.of upd_same, hv, ?_⟩
  refine q v _ v0 v1 ?_ ((s6.same g7).same g8)
  exact c1.trans (c2.trans (c3.trans (c4.trans ((Chg.of (same_new hl)).trans (c6.trans ((Chg.of g7).trans (Chg.of g8)))))))
/-- a far number -/
def spFarNum : Sp := fun vs H Q _ => ∃ p : Addr, vs = [.ref p] ∧ Sta H p ∧ ∀ (v : Int) (H' : Hp), -M30 ≤ v → v ≤ M30 → Chg H H' p → Sta H' p → Q (.int v) H'
theorem c_farNum (D : At K mg "_law_far_number" sFarNum ["_law_state_here"]) (CN : Cl P w K mg base 3 "_law_number" ["_law_state_here"] spNumber) (CT : Cl P w K mg base 1 "_law_take" ["_law_state_here", "_law_many"] spDraw) : Cl P w K mg base 4 "_law_far_number" ["_law_state_here"] spFarNum := by
  refine D.ok scFarNum (fun vs H Q E h => ?_) (fun f cdv A outer s H vs Q E hr h => ?_)
  · obtain ⟨_, rfl, _⟩ := h
    rfl
  obtain ⟨p, rfl, St0, q⟩ := h
  have nd := scFarNum.nd
  refine ⟨_, pss_cons (ps_set (i := 1) nd rfl (.inl rfl) (pcl CN hr (by rfl) (pa_cons (pv 0) pa_nil)))
    (pss_one (ps_ret (pe_ix ix_list (pe_lst (pa_cons (pv 1) (pa_cons (pe_op op_sub pe_int (pv 1)) (pa_cons pe_int (pa_cons (pe_op op_sub (pv 1) pe_int) pa_nil))))) (pcl CT (hr.mono (by decide)) (by rfl) (pa_cons (pv 0) (pa_cons pe_int pa_nil))) (fun _ _ => rfl)))), ?_⟩
  refine ⟨_, rfl, p, rfl, St0, fun n H1 n0 n1 c1 s1 => ?_⟩
  refine ⟨_, rfl, _, rfl, 0, n, rfl, rfl, _, rfl, n, 1, rfl, rfl, (by show 4 ≤ sizeLine; decide), fun l hl => ?_⟩
  have nlp : l ≠ p := fun z => by
    obtain ⟨_, _, e, _⟩ := s1.ex
    rw [← z, hl] at e
    cases e
  have g2 := same_new (o := .lst [.int n, .int (0 - n), .int 0, .int (n - 1)]) hl
  refine ⟨_, rfl, p, 4, rfl, by decide, by decide, s1.same g2, fun k H3 k0 k1 c3 s3 => ?_⟩
  have e3 : H3 l = some (.lst [.int n, .int (0 - n), .int 0, .int (n - 1)]) := c3 l _ nlp upd_same
  obtain ⟨v, hv, v0, v1⟩ := pick4 (a := n) (b := 0 - n) (c := 0) (d := n - 1) k0 k1 ⟨by omega, by omega⟩ ⟨by omega, by omega⟩ ⟨by omega, by omega⟩ ⟨by omega, by omega⟩
  refine ⟨l, _, k, .int v, rfl, rfl, SqL.of e3, hv, ?_⟩
  exact q v _ v0 v1 (c1.trans ((Chg.of g2).trans c3)) s3
/-! ### the law's own parts -/
def spLParts : Sp := fun vs H Q _ => ∃ n : Int, vs = [.int n] ∧ 1 ≤ n ∧ n ≤ M9 ∧ ∀ (r : Addr) (H' : Hp) (ws : List V) (L : List (Int × Nat)), Same H H' → H' r = some (.lst ws) → Pairs H' ws L → Parts n L → Q (.ref r) H'
theorem c_lparts (D : At K mg "_law_parts" sLParts ["_law_number_here"]) : Cl P w K mg base 1 "_law_parts" ["_law_number_here"] spLParts := by
  refine D.ok scLParts (fun vs H Q E h => ?_) (fun f cdv A outer s H vs Q E hr h => ?_)
  · obtain ⟨_, rfl, _⟩ := h
    rfl
  obtain ⟨n, rfl, n0, n1, q⟩ := h
  have nd := scLParts.nd
  have nB : n ≤ 1073741824 := Int.le_trans n1 (by decide)
  refine ⟨_, pss_cons (ps_par3 (i := 1) (j := 2) (l := 3) rfl nd rfl rfl rfl (by decide) (by decide) (by decide) rfl rfl rfl (pa_cons (pe_lst pa_nil) (pa_cons (pv 0) (pa_cons pe_int pa_nil))) (by rfl))
    (pss_cons (ps_while PassesOwn.never (pt_cmpR op_gt (pv 2) pe_int (nomark _))
      (C8.pss_cut (ps_if (pt_cmpR op_gt (pe_op op_mulW (pv 3) (pv 3)) (pv 2) (nomark _)) (pss_one (ps_set (i := 3) nd rfl (.inl rfl) (pv 2))) pss_nil)
      (pss_cons (ps_set (i := 4) nd rfl (.inl rfl) pe_int)
      (pss_cons (ps_while PassesOwn.never (pt_cmpR op_eq (pe_op op_mod (pv 2) (pv 3)) pe_int (nomark _))
        (pss_one (ps_par (i := 2) (j := 4) rfl nd rfl rfl (by decide) rfl rfl (pa_cons (pe_op op_fdivW (pv 2) (pv 3)) (pa_cons (pe_op op_add (pv 4) pe_int) pa_nil)) (by rfl))))
      (pss_cons (ps_if (pt_cmpR op_gt (pv 4) pe_int (nomark _))
        (pss_one (ps_expr (pe_bm PySem.F.plainAttrs_list PySem.F.slot_list_append PySem.F.type_list_append mt_append (pv 1) (pa_cons (pe_tup (pa_cons (pv 3) (pa_cons (pv 4) pa_nil))) pa_nil)))) pss_nil)
      (pss_one (ps_set (i := 3) nd rfl (.inl rfl) (pe_op op_add (pv 3) pe_int))))))))
    (pss_one (ps_ret (pv 1)))), ?_⟩
  refine ⟨Nat.zero_le _, fun a ha => ?_⟩
  refine ⟨_, rfl, _, _, _, rfl, ?_⟩
  refine while_by (fun σ H' => ∃ (vs : List V) (L : List (Int × Nat)) (left p : Int) (z : Option V), σ = [some (.int n), some (.ref a), some (.int left), some (.int p), z] ∧ Pt n L left p ∧ p ≤ n + 1 ∧ Fnd H a vs L H')
    (fun σ _ => n.toNat + 2 - slotN 3 σ)
    ⟨[], [], n, 2, none, rfl, .start n0, by omega, .start ha⟩ ?_ ?_
  · rintro σ H' ⟨vs, L, left, p0, z, rfl, T0, pn0, Fn⟩
    have p02 := T0.p2
    have l1 := T0.l1
    have ll := T0.leftLe
    have wp0 : p0.natAbs < 2 ^ 200 := b200 (by have := m30_1; omega) (by have := m9_m30; omega)
    refine ⟨_, rfl, left, 1, rfl, rfl, _, rfl, ite2 (fun c => ?_) (fun c => ?_)⟩
    · have l2 : (1 : Int) < left := of_decide_eq_true c
      have pl0 := T0.pLe l2
      refine ⟨fun σ' H2 => H2 = H' ∧ ∃ p : Int, σ' = [some (.int n), some (.ref a), some (.int left), some (.int p), z] ∧ Pt n L left p ∧ p ≤ left ∧ p0 ≤ p, ?_, ?_⟩
      · refine ⟨_, rfl, _, rfl, p0, p0, rfl, rfl, mulOk wp0 wp0, _, rfl, p0 * p0, left, rfl, rfl, _, rfl, ite2 (fun c => ?_) (fun c => ?_)⟩
        · have sq : left < p0 * p0 := of_decide_eq_true c
          exact ⟨_, rfl, rfl, left, rfl, T0.jump l2 sq, Int.le_refl _, pl0⟩
        · exact ⟨rfl, p0, rfl, T0, pl0, Int.le_refl _⟩
      · rintro σ' H2 ⟨rfl, p, rfl, T, pl, pp⟩
        have p2 := T.p2
        have wp : p.natAbs < 2 ^ 200 := b200 (by have := m30_1; omega) (by have := m9_m30; omega)
        -- often = 0, the inner loop
        refine while_by (fun σ H3 => H3 = H2 ∧ ∃ (l : Int) (e : Nat), σ = [some (.int n), some (.ref a), some (.int l), some (.int p), some (.int (e : Int))] ∧ Pin left p l e)
          (fun σ _ => slotN 2 σ) ⟨rfl, left, 0, rfl, .start l1⟩ ?_ ?_
        · rintro σ H3 ⟨rfl, l, e, rfl, I⟩
          have il := I.leftLe p2
          have i1 := I.l1
          refine ⟨_, rfl, _, rfl, l, p, rfl, rfl, (by omega), rfl, _, rfl, ite2 (fun c2 => ?_) (fun c2 => ?_)⟩
          · have hd : l % p = 0 := V.int.inj (of_decide_eq_true c2)
            have I2 := I.turn p2 hd
            refine ⟨_, rfl, _, rfl, l, p, rfl, rfl, divOk (by omega) wp, _, rfl, (e : Int), 1, rfl, rfl, _, _, rfl, ?_⟩
            refine ⟨⟨rfl, l / p, e + 1, rfl, I2.1⟩, ?_⟩
            show (l / p).toNat < l.toNat
            have := I2.2
            omega
          · have hd : l % p ≠ 0 := fun z => c2 (decide_eq_true (congrArg V.int z))
            have mu : ∀ q : Int, q = p + 1 → n.toNat + 2 - q.toNat < n.toNat + 2 - p0.toNat := fun q hq => by omega
            -- if often > 0
            refine ⟨_, rfl, (e : Int), 0, rfl, rfl, _, rfl, ite2 (fun c3 => ?_) (fun c3 => ?_)⟩
            · have e1 : (0 : Int) < (e : Int) := of_decide_eq_true c3
              have T2 := T.turn1 I (by omega) hd
              refine ⟨.ref a, rfl, .inl ⟨rfl, _, SqL.of Fn.at_⟩, _, rfl, _, rfl, (by show 2 ≤ sizeLine; decide), fun t ht => ?_⟩
              have nat : a ≠ t := ne_of_none Fn.at_ ht
              refine ⟨a, vs, .ref t, rfl, rfl, ?_, ?_, ?_⟩
              · rw [upd_ne nat]
                exact Fn.at_
              · rw [Fn.pairs.length]
                exact small30 (T.lenLe nB)
              · refine ⟨_, rfl, p, 1, rfl, rfl, ?_⟩
                exact ⟨⟨_, _, l, p + 1, _, rfl, T2, by omega, Fn.app ht (p, e) rfl⟩, mu _ rfl⟩
            · have e0 : ¬ (0 : Int) < (e : Int) := fun z => c3 (decide_eq_true z)
              have ez : e = 0 := by omega
              subst ez
              have T2 := T.turn0 I hd
              refine ⟨_, rfl, p, 1, rfl, rfl, ?_⟩
              exact ⟨⟨vs, L, l, p + 1, _, rfl, T2, by omega, Fn⟩, mu _ rfl⟩
        · rintro σ H' Q1 Q2 h12 ⟨v, e, v2, e2, i, j, e3, e4, hc, hs, k, e5, q3⟩
          exact ⟨v, e, v2, e2, i, j, e3, e4, hc, hs, k, e5, h12 _ _ q3⟩
    · have l2 : ¬ (1 : Int) < left := fun z => c (decide_eq_true z)
      have le : left = 1 := by omega
      subst le
      refine ⟨_, rfl, ?_⟩
      exact q a _ _ _ Fn.same Fn.at_ Fn.pairs T0.done1
  · rintro σ H' Q1 Q2 h12 ⟨v, e, i, j, e1, e2, k, e3, q3⟩
    exact ⟨v, e, i, j, e1, e2, k, e3, h12 _ _ q3⟩
theorem c_lisP (D : At K mg "_law_is_prime" sLIsP ["_law_number_here"]) (CP : Cl P w K mg base 1 "_law_parts" ["_law_number_here"] spLParts) : Cl P w K mg base 2 "_law_is_prime" ["_law_number_here"] spTold := by
  refine D.ok scLIsP (fun vs H Q E h => ?_) (fun f cdv A outer s H vs Q E hr h => ?_)
  · obtain ⟨_, rfl, _⟩ := h
    rfl
  obtain ⟨n, rfl, n0, n1, q⟩ := h
  refine ⟨_, pss_one (ps_ret (pe_and (pe_cmpR op_gt (pv 0) pe_int (nomark _)) (pe_one (pe_cmpR (op_eqD hr.units) (pcl CP hr (by rfl) (pa_cons (pv 0) pa_nil)) (pe_lst (pa_cons (pe_tup (pa_cons (pv 0) (pa_cons pe_int pa_nil))) pa_nil)) (nomark _))))), ?_⟩
  refine ⟨_, rfl, n, 1, rfl, rfl, _, rfl, ite2 (fun c => ?_) (fun c => ?_)⟩
  · have n2 : 1 < n := of_decide_eq_true c
    refine ⟨_, rfl, n, rfl, n0, n1, fun r H1 ws L s1 hr1 hp hL => ?_⟩
    refine ⟨_, rfl, (by show 2 ≤ sizeLine; decide), fun t ht => ?_⟩
    refine ⟨(by show 1 ≤ sizeLine; decide), fun u hu => ?_⟩
    have s2 : Same H1 (upd H1 t (.tup [.int n, .int 1])) := same_new ht
    have s3 : Same (upd H1 t (.tup [.int n, .int 1])) (upd (upd H1 t (.tup [.int n, .int 1])) u (.lst [.ref t])) := same_new hu
    refine ⟨.list (L.map dat), .list ([((n : Int), 1)].map dat), .lst (SqL.of (s3 _ _ (s2 _ _ hr1))) (dp_pairs ((hp.same s2).same s3)),
      .lst (SqL.of upd_same) (.cons (.tup (SqT.of (s3 _ _ upd_same)) (.cons (.int _) (.cons (.int _) .nil))) .nil), dat_lst L, dat_lst _, ?_⟩
    refine q _ _ (s1.trans (s2.trans s3)) ?_
    show PyData.eqvAll (L.map dat) [dat (n, 1)] = true ↔ Pr n
    rw [dat_eq, decide_eq_true_iff]
    exact hL.prime (by omega)
  · have n2 : ¬ 1 < n := fun z => c (decide_eq_true z)
    have e1 : n = 1 := by omega
    subst e1
    exact q false H (Same.refl H) ⟨(fun z => by cases z), fun z => absurd z no_pr1⟩
/-- a drawn prime -/
def spLPrime : Sp := fun vs H Q _ => ∃ (p : Addr) (most : Int), vs = [.ref p, .int most] ∧ 0 < most ∧ most ≤ 1000000 ∧ Sta H p ∧ ∀ (v : Int) (H' : Hp), Pr v → v ≤ 1000003 → Chg H H' p → Sta H' p → Q (.int v) H'
theorem c_lprime (D : At K mg "_law_prime" sLPrime ["_law_state_here", "_law_most"]) (CT : Cl P w K mg base 1 "_law_take" ["_law_state_here", "_law_many"] spDraw) (CI : Cl P w K mg base 2 "_law_is_prime" ["_law_number_here"] spTold) : Cl P w K mg base 3 "_law_prime" ["_law_state_here", "_law_most"] spLPrime := by
  refine D.ok scLPrime (fun vs H Q E h => ?_) (fun f cdv A outer s H vs Q E hr h => ?_)
  · obtain ⟨_, _, rfl, _⟩ := h
    rfl
  obtain ⟨p, most, rfl, m0, m1, St0, q⟩ := h
  have nd := scLPrime.nd
  refine ⟨_, pss_cons (ps_set (i := 2) nd rfl (.inl rfl) (pe_op op_add pe_int (pcl CT (hr.mono (by decide)) (by rfl) (pa_cons (pv 0) (pa_cons (pv 1) pa_nil)))))
    (pss_cons (ps_while PassesOwn.never (pt_not (pt_val (pcl CI hr (by rfl) (pa_cons (pv 2) pa_nil)))) (pss_one (ps_set (i := 2) nd rfl (.inl rfl) (pe_op op_add (pv 2) pe_int))))
    (pss_one (ps_ret (pv 2)))), ?_⟩
  have eM : (1000000 : Int) ≤ M30 := by decide
  have eM9 : (1000003 : Int) ≤ M9 := by decide
  refine ⟨_, rfl, _, rfl, p, most, rfl, m0, by omega, St0, fun v H1 v0 v1 c1 s1 => ⟨2, v, rfl, rfl, ?_⟩⟩
  refine while_by (fun σ H' => ∃ n : Int, σ = [some (.ref p), some (.int most), some (.int n)] ∧ 2 ≤ n ∧ n ≤ 1000003 ∧ Chg H H' p ∧ Sta H' p) (fun σ _ => 1000003 - slotN 2 σ)
    ⟨2 + v, rfl, by omega, by omega, c1, s1⟩ ?_ ?_
  · rintro σ H' ⟨n, rfl, n2, n3, c2, s2⟩
    refine ⟨_, rfl, n, rfl, by omega, by omega, fun b H2 sm hb => ⟨b, rfl, ?_⟩⟩
    cases b with
    | true => exact iteF ⟨_, rfl, q n _ (hb.mp rfl) n3 (c2.trans (Chg.of sm)) (s2.same sm)⟩
    | false =>
      have np : ¬ Pr n := fun z => by
        have := hb.mpr z
        cases this
      have nf : n ≠ 1000003 := fun z => by
        subst z
        exact np pr_far
      refine iteT ⟨_, rfl, n, 1, rfl, rfl, ⟨n + 1, rfl, by omega, by omega, c2.trans (Chg.of sm), s2.same sm⟩, ?_⟩
      show 1000003 - (n + 1).toNat < 1000003 - n.toNat
      omega
  · rintro σ H' Q1 Q2 h12 ⟨v, e, n, e1, g1, g2, q3⟩
    exact ⟨v, e, n, e1, g1, g2, fun b H2 sm hb => let ⟨c, ec, qc⟩ := q3 b H2 sm hb; ⟨c, ec, h12 _ _ qc⟩⟩
end
end K04
namespace K04
open PySem PySem.Spec PyProof.Rows L2
section
variable {P : Program} {w : World} {K : PySem.W.Frag} {mg : Str → Option Value} {base : Heap}
def spLaw (K : PySem.W.Frag) : Sp := fun vs H Q _ => ∃ (a : Addr) (ns : List Int), vs = [.ref a] ∧ SqL K H a (ns.map V.int) ∧ ns.length ≤ 63 ∧ ∀ H', Q (.bl true) H'
theorem dv_bounds {v : Int} (h0 : -M30 ≤ v) (h1 : v ≤ M30) : -1000000000000000000000000000 ≤ v / 1000 ∧ v / 1000 ≤ 1000000000000000000000000000 := by
  have e : M30 = 1000000000000000000000000000000 := rfl
  omega
theorem ok_law {f : Addr} {fd : FuncData} (F : Fun K "law" "law" sLaw f fd) (mR : mg "range" = none) (mMax : mg "max" = none) (mMin : mg "min" = none) (ml : mg "len" = none)
    (CS : Cl P w K mg base 2 "_law_state" ["_law_script", "_law_k"] (spState K)) (CFN : Cl P w K mg base 4 "_law_far_number" ["_law_state_here"] spFarNum) (CT : Cl P w K mg base 1 "_law_take" ["_law_state_here", "_law_many"] spDraw)
    (CN : Cl P w K mg base 3 "_law_number" ["_law_state_here"] spNumber) (CF : Cl P w K mg base 2 "_law_far" ["_law_state_here", "_law_many"] spDraw) (CR : Cl P w K mg base 5 "raised" ["base", "often", "n"] spRaised)
    (CU : Cl P w K mg base 5 "undone" ["number", "n"] spUndone) (CH : Cl P w K mg base 5 "shared" ["one", "other"] spShared) (CLP : Cl P w K mg base 3 "_law_prime" ["_law_state_here", "_law_most"] spLPrime)
    (CIP : Cl P w K mg base 4 "is_prime" ["number"] spTold) (CPO : Cl P w K mg base 4 "parts_of" ["number"] spPparts) : FnOk P w K mg base CX0 6 f fd ["_law_script"] (spLaw K) := by
  refine F.ok scLaw (fun vs H Q E h => ?_) (fun cdv A outer s H vs Q E hr h => ?_)
  · obtain ⟨_, _, rfl, _⟩ := h
    rfl
  obtain ⟨a, ns, rfl, hS, h63, q⟩ := h
  have nd := scLaw.nd
  have h4 := hr.mono (show 4 ≤ 5 by decide)
  have h3 := hr.mono (show 3 ≤ 5 by decide)
  have h2 := hr.mono (show 2 ≤ 5 by decide)
  have h1 := hr.mono (show 1 ≤ 5 by decide)
  refine ⟨_, pss_cons (ps_for PassesOwn.never rfl (pi_range1 rfl mR (pa_cons (pe_callB (call_max2 rfl) (by rfl) mMax (by decide +kernel) (pa_cons pe_int (pa_cons (pe_callB (call_min2 rfl) (by rfl) mMin (by decide +kernel)
        (pa_cons (pe_callB call_len_seq (by rfl) ml PySem.boot_len (pa_cons (pv 0) pa_nil)) (pa_cons pe_int pa_nil))) pa_nil))) pa_nil)) (pg_name (i := 1) nd rfl (.inl rfl))
      -- the state; one, other, n; first, second
      (C8.pss_cut (ps_set (i := 2) nd rfl (.inl rfl) (pcl CS h2 (by rfl) (pa_cons (pv 0) (pa_cons (pv 1) pa_nil))))
      (C8.pss_cut (ps_par3 (i := 3) (j := 4) (l := 5) rfl nd rfl rfl rfl (by decide) (by decide) (by decide) rfl rfl rfl (pa_cons (pe_op op_fdiv (pcl CFN h4 (by rfl) (pa_cons (pv 2) pa_nil)) pe_int)
          (pa_cons (pcl CT h1 (by rfl) (pa_cons (pv 2) (pa_cons pe_int pa_nil))) (pa_cons (pcl CN h3 (by rfl) (pa_cons (pv 2) pa_nil)) pa_nil))) (by rfl))
      (C8.pss_cut (ps_par (i := 6) (j := 7) rfl nd rfl rfl (by decide) rfl rfl (pa_cons (pcl CF h2 (by rfl) (pa_cons (pv 2) (pa_cons (pe_op op_pow pe_int pe_int) pa_nil)))
          (pa_cons (pcl CT h1 (by rfl) (pa_cons (pv 2) (pa_cons (pe_op op_pow pe_int pe_int) pa_nil))) pa_nil)) (by rfl))
      -- the three laws of powers
      (pss_cons (ps_if (pt_cmpR op_ne (pe_op op_mod (pe_op op_mulW (pcl CR hr (by rfl) (pa_cons (pv 3) (pa_cons (pv 6) (pa_cons (pv 5) pa_nil)))) (pcl CR hr (by rfl) (pa_cons (pv 3) (pa_cons (pv 7) (pa_cons (pv 5) pa_nil))))) (pv 5))
          (pcl CR hr (by rfl) (pa_cons (pv 3) (pa_cons (pe_op op_add (pv 6) (pv 7)) (pa_cons (pv 5) pa_nil)))) (nomark _)) (pss_one (ps_ret pe_bl)) pss_nil)
      (pss_cons (ps_if (pt_cmpR op_ne (pcl CR hr (by rfl) (pa_cons (pe_op op_mulW (pv 3) (pv 4)) (pa_cons (pv 6) (pa_cons (pv 5) pa_nil))))
          (pe_op op_mod (pe_op op_mulW (pcl CR hr (by rfl) (pa_cons (pv 3) (pa_cons (pv 6) (pa_cons (pv 5) pa_nil)))) (pcl CR hr (by rfl) (pa_cons (pv 4) (pa_cons (pv 6) (pa_cons (pv 5) pa_nil))))) (pv 5)) (nomark _)) (pss_one (ps_ret pe_bl)) pss_nil)
      (pss_cons (ps_if (pt_cmpR op_ne (pcl CR hr (by rfl) (pa_cons (pcl CR hr (by rfl) (pa_cons (pv 3) (pa_cons (pv 6) (pa_cons (pv 5) pa_nil)))) (pa_cons (pv 7) (pa_cons (pv 5) pa_nil))))
          (pcl CR hr (by rfl) (pa_cons (pcl CR hr (by rfl) (pa_cons (pv 3) (pa_cons (pv 7) (pa_cons (pv 5) pa_nil)))) (pa_cons (pv 6) (pa_cons (pv 5) pa_nil)))) (nomark _)) (pss_one (ps_ret pe_bl)) pss_nil)
      -- what undoes
      (C8.pss_cut (ps_set (i := 8) nd rfl (.inl rfl) (pcl CU hr (by rfl) (pa_cons (pv 3) (pa_cons (pv 5) pa_nil))))
      (pss_cons (ps_if (pt_cmpR op_ne (pe_cmpR op_isN (pv 8) pe_non (nomark _)) (pe_cmpR op_ne (pcl CH hr (by rfl) (pa_cons (pv 3) (pa_cons (pv 5) pa_nil))) pe_int (nomark _)) (nomark _)) (pss_one (ps_ret pe_bl)) pss_nil)
      (C8.pss_cut (ps_if (PW.pt (pw_and (pt_cmpR op_notN (pv 8) pe_non (nomark _)) (pw_and1 (pt_cmpR op_ne (pcl CU hr (by rfl) (pa_cons (pcl CR hr (by rfl) (pa_cons (pv 3) (pa_cons (pv 7) (pa_cons (pv 5) pa_nil)))) (pa_cons (pv 5) pa_nil)))
          (pcl CR hr (by rfl) (pa_cons (pv 8) (pa_cons (pv 7) (pa_cons (pv 5) pa_nil)))) (nomark _))))) (pss_one (ps_ret pe_bl)) pss_nil)
      -- a prime
      (C8.pss_cut (ps_set (i := 9) nd rfl (.inl rfl) (pcl CLP h3 (by rfl) (pa_cons (pv 2) (pa_cons (pe_op op_pow pe_int pe_int) pa_nil))))
      (C8.pss_cut (ps_if (PW.pt (pw_or (pt_cmpR op_ne (pcl CR hr (by rfl) (pa_cons (pv 3) (pa_cons (pv 9) (pa_cons (pv 9) pa_nil)))) (pe_op op_mod (pv 3) (pv 9)) (nomark _))
          (pw_or1 (pt_cmpR op_notBl (pcl CIP h4 (by rfl) (pa_cons (pv 9) pa_nil)) pe_bl (nomark _))))) (pss_one (ps_ret pe_bl)) pss_nil)
      -- the parts
      (C8.pss_cut (ps_par (i := 10) (j := 11) rfl nd rfl rfl (by decide) rfl rfl (pa_cons (pe_op op_add pe_int (pcl CT h1 (by rfl) (pa_cons (pv 2) (pa_cons (pe_op op_pow pe_int pe_int) pa_nil)))) (pa_cons pe_int pa_nil)) (by rfl))
      (C8.pss_cut (ps_for PassesOwn.never rfl (pi_tup (pcl CPO h4 (by rfl) (pa_cons (pv 10) pa_nil))) (pg_tup rfl (pgs_cons (pg_name (i := 12) nd rfl (.inl rfl)) (pgs_cons (pg_name (i := 13) nd rfl (.inl rfl)) pgs_nil)))
        (pss_cons (ps_if (pt_cmpR op_notBl (pcl CIP h4 (by rfl) (pa_cons (pv 12) pa_nil)) pe_bl (nomark _)) (pss_one (ps_ret pe_bl)) pss_nil)
        (pss_one (ps_for PassesOwn.never rfl (pi_range1 rfl mR (pa_cons (pv 13) pa_nil)) (pg_name (i := 14) nd rfl (.inl rfl)) (pss_one (ps_set (i := 11) nd rfl (.inl rfl) (pe_op op_mulW (pv 11) (pv 12))))))))
      (pss_one (ps_if (PW.pt (pw_or (pt_cmpR op_ne (pv 11) (pv 10) (nomark _)) (pw_or1 (pt_cmpR op_ne (pcl CIP h4 (by rfl) (pa_cons (pv 10) pa_nil))
          (pe_cmpR (op_eqD hr.units) (pcl CPO h4 (by rfl) (pa_cons (pv 10) pa_nil)) (pe_tup (pa_cons (pe_tup (pa_cons (pv 10) (pa_cons pe_int pa_nil))) pa_nil)) (nomark _)) (nomark _))))) (pss_one (ps_ret pe_bl)) pss_nil))))))))))))))))
    (pss_one (ps_ret pe_bl)), ?_⟩
  have eM : M30 = 1000000000000000000000000000000 := rfl
  refine ⟨_, rfl, a, _, rfl, .inl hS, _, _, rfl, _, _, rfl, _, rfl, ?_, ?_, for_range (lo := 0) (fun i σ H' => ∃ t1 t2 t3 t4 t5 t6 t7 t8 t9 t10 t11 t12 t13 t14 : Option V, σ = [some (.ref a), t1, t2, t3, t4, t5, t6, t7, t8, t9, t10, t11, t12, t13, t14] ∧ SqL K H' a (ns.map V.int))
    ⟨none, none, none, none, none, none, none, none, none, none, none, none, none, none, rfl, hS⟩ ?_ (fun σ H' _ => q H')⟩
  · rw [List.length_map]
    split <;> split <;> omega
  · rw [List.length_map]
    split <;> split <;> omega
  rintro i σ H0 hi ⟨t1, t2, t3, t4, t5, t6, t7, t8, t9, t10, t11, t12, t13, t14, rfl, hS0⟩
  -- the state
  refine ⟨fun σ' H' => ∃ p : Addr, σ' = [some (.ref a), some (.int (0 + (i : Int))), some (.ref p), t3, t4, t5, t6, t7, t8, t9, t10, t11, t12, t13, t14] ∧ H0 p = none ∧ Same H0 H' ∧ Sta H' p,
    ⟨_, rfl, _, rfl, a, ns, 0 + (i : Int), rfl, hS0, by omega, fun p H1 hp s1 st1 => ⟨p, rfl, hp, s1, st1⟩⟩, ?_⟩
  rintro σ H1 ⟨p, rfl, hp, s1, st1⟩
  -- one, other, n
  refine ⟨fun σ' H' => ∃ x y n : Int, σ' = [some (.ref a), some (.int (0 + (i : Int))), some (.ref p), some (.int x), some (.int y), some (.int n), t6, t7, t8, t9, t10, t11, t12, t13, t14] ∧
      (-1000000000000000000000000000 ≤ x ∧ x ≤ 1000000000000000000000000000) ∧ (0 ≤ y ∧ y < 1000) ∧ (1 ≤ n ∧ n ≤ M30) ∧ Same H0 H' ∧ Sta H' p, ?_, ?_⟩
  · refine ⟨_, rfl, p, rfl, st1, fun v H2 v0 v1 c2 s2 => ⟨v, 1000, rfl, rfl, ⟨by decide, by decide⟩, _, rfl, p, 1000, rfl, by decide, by decide, s2, fun y H3 y0 y1 c3 s3 => ⟨_, rfl, p, rfl, s3, fun n H4 n0 n1 c4 s4 => ⟨_, _, _, rfl, ?_⟩⟩⟩⟩
    exact ⟨v / 1000, y, n, rfl, dv_bounds v0 v1, ⟨y0, y1⟩, ⟨n0, n1⟩, Chg.same s1 hp (c2.trans (c3.trans c4)), s4⟩
  rintro σ H4 ⟨x, y, n, rfl, ⟨x0, x1⟩, ⟨y0, y1⟩, ⟨n0, n1⟩, s4, st4⟩
  have fx0 : -M30 ≤ x := by omega
  have fx1 : x ≤ M30 := by omega
  have fy0 : -M30 ≤ y := by omega
  have fy1 : y ≤ M30 := by omega
  have fxy := far_mul x0 x1 y0 y1
  have hn0 : 0 < n := by omega
  -- first, second
  refine ⟨fun σ' H' => ∃ fi se : Int, σ' = [some (.ref a), some (.int (0 + (i : Int))), some (.ref p), some (.int x), some (.int y), some (.int n), some (.int fi), some (.int se), t8, t9, t10, t11, t12, t13, t14] ∧
      (0 ≤ fi ∧ fi < 100000000000000000000000000000) ∧ (0 ≤ se ∧ se < 1000000) ∧ Same H0 H' ∧ Sta H' p, ?_, ?_⟩
  · refine ⟨_, rfl, 10, 29, rfl, rfl, cpow (by decide) (by decide), p, _, rfl, (by rw [m30_c]; decide), (by rw [m30_c]; decide), st4, fun fi H5 f0 f1 c5 s5 => ?_⟩
    refine ⟨_, rfl, 10, 6, rfl, rfl, cpow (by decide) (by decide), p, _, rfl, (by rw [m30_d]; decide), (by rw [m30_d]; decide), s5, fun se H6 e0 e1 c6 s6 => ⟨_, _, rfl, ?_⟩⟩
    rw [m30_c] at f1
    rw [m30_d] at e1
    exact ⟨fi, se, rfl, ⟨f0, f1⟩, ⟨e0, e1⟩, Chg.same s4 hp (c5.trans c6), s6⟩
  rintro σ H6 ⟨fi, se, rfl, ⟨f0, f1⟩, ⟨e0, e1⟩, s6, st6⟩
  have ff1 : fi ≤ M30 := by omega
  have fe1 : se ≤ M30 := by omega
  have wpw : ∀ (u : Int) (k : Nat), (pw u k n).natAbs < 2 ^ 200 := fun u k => b200 (by have := pw_nonneg (a := u) (k := k) n0; omega) (by have := pw_lt (a := u) (k := k) n0; omega)
  have pw0 : ∀ (u : Int) (k : Nat), -M30 ≤ pw u k n := fun u k => by have := pw_nonneg (a := u) (k := k) n0; omega
  have pw1 : ∀ (u : Int) (k : Nat), pw u k n ≤ M30 := fun u k => by have := pw_lt (a := u) (k := k) n0; omega
  -- powers of two numbers how often
  refine ⟨_, rfl, _, rfl, _, rfl, x, fi, n, rfl, fx0, fx1, f0, ff1, n0, n1, _, rfl, _, rfl, _, rfl, x, se, n, rfl, fx0, fx1, e0, fe1, n0, n1, _, _, rfl, rfl, mulOk (wpw _ _) (wpw _ _), _, rfl, _, n, rfl, rfl, hn0,
    _, rfl, _, rfl, _, rfl, fi, se, rfl, rfl, _, rfl, x, fi + se, n, rfl, fx0, fx1, by omega, by omega, n0, n1, rfl, _, rfl, iteNS (congrArg V.int ?_) ?_⟩
  · rw [show (fi + se).toNat = fi.toNat + se.toNat by omega]
    exact pw_add x n fi.toNat se.toNat
  -- the power of a product
  refine ⟨_, rfl, _, rfl, x, y, rfl, rfl, mulOk (b200 fx0 fx1) (b200 fy0 fy1), _, rfl, _, rfl, x * y, fi, n, rfl, fxy.1, fxy.2, f0, ff1, n0, n1,
    _, rfl, _, rfl, _, rfl, x, fi, n, rfl, fx0, fx1, f0, ff1, n0, n1, _, rfl, _, rfl, _, rfl, y, fi, n, rfl, fy0, fy1, f0, ff1, n0, n1, _, _, rfl, rfl, mulOk (wpw _ _) (wpw _ _), _, rfl, _, n, rfl, rfl, hn0,
    rfl, _, rfl, iteNS (congrArg V.int (pw_mul x y n fi.toNat)) ?_⟩
  -- powers of powers
  refine ⟨_, rfl, _, rfl, _, rfl, x, fi, n, rfl, fx0, fx1, f0, ff1, n0, n1, _, rfl, _, rfl, _, se, n, rfl, pw0 _ _, pw1 _ _, e0, fe1, n0, n1,
    _, rfl, _, rfl, _, rfl, x, se, n, rfl, fx0, fx1, e0, fe1, n0, n1, _, rfl, _, rfl, _, fi, n, rfl, pw0 _ _, pw1 _ _, f0, ff1, n0, n1, rfl, _, rfl, iteNS (congrArg V.int (pw_comm x n fi.toNat se.toNat)) ?_⟩
  -- what undoes
  refine ⟨fun σ' H' => ∃ bk : V, σ' = [some (.ref a), some (.int (0 + (i : Int))), some (.ref p), some (.int x), some (.int y), some (.int n), some (.int fi), some (.int se), some bk, t9, t10, t11, t12, t13, t14] ∧
      ((bk = .non ∧ Int.gcd x n ≠ 1) ∨ ∃ z : Int, bk = .int z ∧ Int.gcd x n = 1 ∧ Und x n z) ∧ Same H0 H' ∧ Sta H' p, ?_, ?_⟩
  · refine ⟨_, rfl, _, rfl, x, n, rfl, fx0, fx1, n0, n1, fun g H7 s7 => ?_, fun z H7 g u s7 => ?_⟩
    · exact ⟨_, rfl, .inl ⟨rfl, g⟩, s6.trans s7, st6.same s7⟩
    · exact ⟨_, rfl, .inr ⟨z, rfl, g, u⟩, s6.trans s7, st6.same s7⟩
  rintro σ H7 ⟨bk, rfl, hbk, s7, st7⟩
  -- it is None just where they share more than 1
  refine ⟨_, rfl, rfl, _, rfl, _, rfl, x, n, rfl, fx0, fx1, by omega, n1, rfl, rfl, _, rfl, iteNS ?_ ?_⟩
  · rcases hbk with ⟨rfl, g⟩ | ⟨z, rfl, g, _⟩
    · have ng : ¬ V.int ((Int.gcd x n : Nat) : Int) = V.int 1 := fun e => g (by have := V.int.inj e; omega)
      show V.bl (decide (V.non = V.non)) = V.bl (!decide (V.int ((Int.gcd x n : Nat) : Int) = V.int 1))
      rw [decide_eq_true rfl, decide_eq_false ng]
      rfl
    · have ng : V.int ((Int.gcd x n : Nat) : Int) = V.int 1 := by rw [g]; rfl
      show V.bl (decide (V.int z = V.non)) = V.bl (!decide (V.int ((Int.gcd x n : Nat) : Int) = V.int 1))
      rw [decide_eq_true ng, decide_eq_false (by intro e; cases e)]
      rfl
  -- what undoes a number to its power undoes the power
  refine ⟨fun σ' H' => σ' = [some (.ref a), some (.int (0 + (i : Int))), some (.ref p), some (.int x), some (.int y), some (.int n), some (.int fi), some (.int se), some bk, t9, t10, t11, t12, t13, t14] ∧ Same H0 H' ∧ Sta H' p, ?_, ?_⟩
  · refine ⟨_, rfl, rfl, _, rfl, ?_⟩
    rcases hbk with ⟨rfl, g⟩ | ⟨z, rfl, g, u⟩
    · exact ⟨rfl, s7, st7⟩
    · have up := Und.pow se.toNat n0 u.one
      have gp := Und.gcd up.one
      refine ⟨_, rfl, _, rfl, _, rfl, x, se, n, rfl, fx0, fx1, e0, fe1, n0, n1, _, rfl, _, n, rfl, pw0 _ _, pw1 _ _, n0, n1, fun ng => absurd gp ng, fun z2 H8 g2 u2 s8 => ?_⟩
      have ez := u2.uniq up
      have zb0 := u.nn
      have zb1 := u.lt
      exact ⟨_, rfl, _, rfl, _, rfl, z, se, n, rfl, by omega, by omega, e0, fe1, n0, n1, rfl, _, rfl, iteNS (congrArg V.int ez) ⟨rfl, s7.trans s8, st7.same s8⟩⟩
  rintro σ H8 ⟨rfl, s8, st8⟩
  -- a prime
  refine ⟨fun σ' H' => ∃ pr : Int, σ' = [some (.ref a), some (.int (0 + (i : Int))), some (.ref p), some (.int x), some (.int y), some (.int n), some (.int fi), some (.int se), some bk, some (.int pr), t10, t11, t12, t13, t14] ∧
      Pr pr ∧ pr ≤ 1000003 ∧ Same H0 H' ∧ Sta H' p, ?_, ?_⟩
  · refine ⟨_, rfl, 10, 6, rfl, rfl, cpow (by decide) (by decide), p, _, rfl, (by rw [m30_d]; decide), (by rw [m30_d]; decide), st8, fun pr H9 hpr p1 c9 s9 => ?_⟩
    exact ⟨pr, rfl, hpr, p1, Chg.same s8 hp c9, s9⟩
  rintro σ H9 ⟨pr, rfl, hpr, pr1, s9, st9⟩
  have pr2 := hpr.two
  have eM9 : M9 = 1000000000 := rfl
  refine ⟨fun σ' H' => σ' = [some (.ref a), some (.int (0 + (i : Int))), some (.ref p), some (.int x), some (.int y), some (.int n), some (.int fi), some (.int se), some bk, some (.int pr), t10, t11, t12, t13, t14] ∧ Same H0 H' ∧ Sta H' p, ?_, ?_⟩
  · refine ⟨_, rfl, _, rfl, _, rfl, x, pr, pr, rfl, fx0, fx1, by omega, by omega, by omega, by omega, _, rfl, _, rfl, x, pr, rfl, rfl, (by omega), rfl, _, rfl, iteNS (congrArg V.int (pw_prime hpr)) ?_⟩
    refine ⟨_, rfl, pr, rfl, by omega, by omega, fun b H10 s10 hb => ?_⟩
    obtain rfl : b = true := hb.mpr hpr
    exact ⟨true, true, rfl, rfl, _, rfl, iteNS rfl ⟨rfl, s9.trans s10, st9.same s10⟩⟩
  rintro σ H10 ⟨rfl, s10, st10⟩
  -- a number and its parts
  refine ⟨fun σ' H' => ∃ nu : Int, σ' = [some (.ref a), some (.int (0 + (i : Int))), some (.ref p), some (.int x), some (.int y), some (.int n), some (.int fi), some (.int se), some bk, some (.int pr), some (.int nu), some (.int 1), t12, t13, t14] ∧
      1 ≤ nu ∧ nu ≤ 100000000 ∧ Same H0 H', ?_, ?_⟩
  · refine ⟨_, rfl, 10, 8, rfl, rfl, cpow (by decide) (by decide), p, _, rfl, (by rw [m30_e]; decide), (by rw [m30_e]; decide), st10, fun v H11 v0 v1 c11 s11 => ⟨1, v, rfl, rfl, _, _, rfl, ?_⟩⟩
    rw [m30_e] at v1
    exact ⟨1 + v, rfl, by omega, by omega, Chg.same s10 hp c11⟩
  rintro σ H11 ⟨nu, rfl, nu0, nu1, s11⟩
  have nuM : nu ≤ M9 := by omega
  have nuB : nu ≤ 1073741824 := by omega
  refine ⟨fun σ' H' => ∃ u12 u13 u14 : Option V, σ' = [some (.ref a), some (.int (0 + (i : Int))), some (.ref p), some (.int x), some (.int y), some (.int n), some (.int fi), some (.int se), some bk, some (.int pr), some (.int nu), some (.int nu), u12, u13, u14] ∧ Same H0 H', ?_, ?_⟩
  · refine ⟨_, rfl, nu, rfl, nu0, nuM, fun r H12 ws L s12 hr12 hps hL => ⟨r, rfl, ⟨_, SqT.of hr12⟩, for_tup (K := K) (a := r) (xs := ws) (fun j σ' H' => ∃ u12 u13 u14 : Option V, σ' = [some (.ref a), some (.int (0 + (i : Int))), some (.ref p), some (.int x), some (.int y), some (.int n), some (.int fi), some (.int se), some bk, some (.int pr), some (.int nu), some (.int (prod (L.take j))), u12, u13, u14] ∧ Same H12 H')
      ⟨t12, t13, t14, rfl, Same.refl _⟩ (fun j σ' H' _ ⟨_, _, _, _, sm⟩ => SqT.of (sm _ _ hr12)) ?_ ?_⟩⟩
    · rintro j v σ' H' hj ⟨u12, u13, u14, rfl, sm⟩
      obtain ⟨xx, hx, t, rfl, ht⟩ := hps.get hj
      obtain ⟨pp, ee⟩ := xx
      have hm : (pp, ee) ∈ L := List.mem_of_getElem? hx
      have hpp := (hL.each _ hm).1
      have ppl := hL.le _ hm
      have pp2 := hpp.two
      have el := hL.expLe nuB hx
      refine ⟨t, _, rfl, SqT.of (sm _ _ ht), rfl, _, _, rfl, _, _, rfl, rfl, ?_⟩
      refine ⟨_, rfl, pp, rfl, by omega, (by have : pp ≤ nu := ppl; omega), fun b H13 s13 hb => ?_⟩
      obtain rfl : b = true := hb.mpr hpp
      refine ⟨true, true, rfl, rfl, _, rfl, iteNS rfl ?_⟩
      have e30 : ee ≤ 30 := el
      refine ⟨_, rfl, (ee : Int), rfl, by omega, by omega, for_range (lo := 0) (fun m σ' H' => ∃ u14 : Option V, σ' = [some (.ref a), some (.int (0 + (i : Int))), some (.ref p), some (.int x), some (.int y), some (.int n), some (.int fi), some (.int se), some bk, some (.int pr), some (.int nu), some (.int (prod (L.take j) * pp ^ m)), some (.int pp), some (.int (ee : Int)), u14] ∧ H' = H13)
        ⟨u14, ?_, rfl⟩ ?_ ?_⟩
      · rw [Int.pow_zero, Int.mul_one]
        rfl
      · rintro m σ' H' hm2 ⟨u14, rfl, rfl⟩
        have me : m < ee := by
          have : ((ee : Int)).toNat = ee := by omega
          omega
        have up := hL.upTo hx (j := m) (by show m ≤ ee; omega)
        have up1 : 1 ≤ prod (L.take j) * pp ^ m := up.1
        have up2 : prod (L.take j) * pp ^ m ≤ nu := up.2
        refine ⟨_, rfl, _, rfl, _, _, rfl, rfl, mulOk (b200 (by omega) (by omega)) (b200 (by omega) (by have : pp ≤ nu := ppl; omega)), some (.int (0 + (m : Int))), ?_, rfl⟩
        rw [Int.pow_succ, ← Int.mul_assoc]
        rfl
      · rintro σ' H' ⟨u14, rfl, rfl⟩
        refine ⟨some (.int pp), some (.int (ee : Int)), u14, ?_, sm.trans s13⟩
        rw [prod_take hx, show ((ee : Int)).toNat = ee by omega]
    · rintro σ' H' ⟨u12, u13, u14, rfl, sm⟩
      refine ⟨u12, u13, u14, ?_, s11.trans (s12.trans sm)⟩
      rw [hps.length, List.take_length, hL.all]
  rintro σ H14 ⟨u12, u13, u14, rfl, s14⟩
  refine ⟨_, rfl, _, rfl, rfl, _, rfl, iteNS rfl ?_⟩
  refine ⟨_, rfl, nu, rfl, nu0, nuM, fun b H15 s15 hb => ?_⟩
  refine ⟨_, rfl, nu, rfl, nu0, nuM, fun r H16 ws L s16 hr16 hps hL => ?_⟩
  refine ⟨_, rfl, (by show 2 ≤ sizeLine; decide), fun t ht => ?_⟩
  refine ⟨(by show 1 ≤ sizeLine; decide), fun u hu => ?_⟩
  have g2 : Same H16 (upd H16 t (.tup [.int nu, .int 1])) := same_new ht
  have g3 : Same (upd H16 t (.tup [.int nu, .int 1])) (upd (upd H16 t (.tup [.int nu, .int 1])) u (.tup [.ref t])) := same_new hu
  refine ⟨.tuple (L.map dat), .tuple ([((nu : Int), 1)].map dat), .tup (SqT.of (g3 _ _ (g2 _ _ hr16))) (dp_pairs ((hps.same g2).same g3)),
    .tup (SqT.of upd_same) (.cons (.tup (SqT.of (g3 _ _ upd_same)) (.cons (.int _) (.cons (.int _) .nil))) .nil), dat_tup L, dat_tup _, rfl, _, rfl, iteNS ?_ ?_⟩
  · refine congrArg V.bl ?_
    show b = PyData.eqvAll (L.map dat) [dat (nu, 1)]
    rw [dat_eq]
    by_cases n2 : nu = 1
    · subst n2
      have b0 : b = false := by
        cases b with
        | false => rfl
        | true => exact absurd (hb.mp rfl) no_pr1
      have nL : ¬ L = [(1, 1)] := fun e => by
        have := (hL.each (1, 1) (by rw [e]; exact List.mem_singleton.mpr rfl)).1
        exact no_pr1 this
      rw [b0, decide_eq_false nL]
    · have hh := hL.prime (show 2 ≤ nu by omega)
      cases b with
      | true => rw [decide_eq_true (hh.mpr (hb.mp rfl))]
      | false =>
        rw [decide_eq_false]
        intro e
        have := hb.mpr (hh.mp e)
        cases this
  · exact ⟨_, _, _, _, _, _, _, _, _, _, _, _, _, _, rfl, ((s14.trans s15).trans (s16.trans (g2.trans g3))).seq hS0⟩
end
end K04
namespace K04
open PySem PySem.Spec PyProof.Rows L2
/-! ### what the top has left, joined -/
theorem fin {l : PySem.W.OpenLaw} {w : World} {K : PySem.W.Frag} {mg : Str → Option Value} {fa : Addr} {t1 t2 : Tok} (hfa : mg "law" = some (.ref fa))
    (m1 : mg "MOST" = some (.int M30 t1)) (m2 : mg "MOST_TRIED" = some (.int M9 t2))
    (z_isinstance : mg "isinstance" = none)
    (z_int : mg "int" = none)
    (z_bool : mg "bool" = none)
    (z_abs : mg "abs" = none)
    (z_tuple : mg "tuple" = none)
    (z_len : mg "len" = none)
    (z_range : mg "range" = none)
    (z_max : mg "max" = none)
    (z_min : mg "min" = none)
    (A0 : At K mg "is_whole" sWhole ["thing"])
    (A1 : At K mg "is_between" sBetween ["thing", "low", "high"])
    (A2 : At K mg "need_between" sNeedB ["thing", "low", "high"])
    (A3 : At K mg "need_number" sNeedN ["n"])
    (A4 : At K mg "need_far" sNeedF ["number"])
    (A5 : At K mg "power_of" sPower ["base", "often", "n"])
    (A6 : At K mg "raised" sRaised ["base", "often", "n"])
    (A7 : At K mg "common" sCommon ["one", "other"])
    (A8 : At K mg "shared" sShared ["one", "other"])
    (A9 : At K mg "undone_by" sUndBy ["number", "n"])
    (A10 : At K mg "undone" sUndone ["number", "n"])
    (A11 : At K mg "prime_parts" sPparts ["number"])
    (A12 : At K mg "is_told_prime" sTold ["number"])
    (A13 : At K mg "is_prime" sIsP ["number"])
    (A14 : At K mg "parts_of" sPartsOf ["number"])
    (A15 : At K mg "_law_cell_at" sCell ["_law_script", "_law_k"])
    (A16 : At K mg "_law_state" sState ["_law_script", "_law_k"])
    (A17 : At K mg "_law_take" sTake ["_law_state_here", "_law_many"])
    (A18 : At K mg "_law_far" sFar ["_law_state_here", "_law_many"])
    (A19 : At K mg "_law_number" sNumber ["_law_state_here"])
    (A20 : At K mg "_law_far_number" sFarNum ["_law_state_here"])
    (A21 : At K mg "_law_parts" sLParts ["_law_number_here"])
    (A22 : At K mg "_law_is_prime" sLIsP ["_law_number_here"])
    (A23 : At K mg "_law_prime" sLPrime ["_law_state_here", "_law_most"])
    (A24 : At K mg "law" sLaw ["_law_script"]) :
    ∃ fd : FuncData, (∀ (s : Shared) (v : Value), BindsTo s fd ⟨[v], []⟩ [("_law_script", v)]) ∧ ∀ base : Heap, K.In base → base.Ns mainGlobals mg → FnOk l.prog w K mg base CX0 6 fa fd ["_law_script"] (spLaw K) := by
  obtain ⟨f, fd, F, b, m⟩ := A24.ex
  obtain rfl : f = fa := by
    have e := m.symm.trans hfa
    cases e
    rfl
  have hB : ∀ (s : Shared) (v : Value), BindsTo s fd ⟨[v], []⟩ [("_law_script", v)] := by
    obtain ⟨oc, od, kV, doc, pm, an, cdv, ct, osl, rfl, lk, hcd⟩ := F.ex
    exact fun s v => .of_eq rfl
  refine ⟨fd, hB, fun base _ _ => ?_⟩
  have C_whole := c_whole (P := l.prog) (w := w) (base := base) A0 z_isinstance z_int z_bool
  have C_between := c_between A1 C_whole
  have C_needB := c_needB A2 C_between
  have C_needN := c_needN A3 m1 C_needB
  have C_needF := c_needF A4 m1 C_needB
  have C_power := c_power (P := l.prog) (w := w) (base := base) A5
  have C_raised := c_raised A6 m1 C_needF C_needB C_needN C_power
  have C_common := c_common (P := l.prog) (w := w) (base := base) A7 z_abs
  have C_shared := c_shared A8 C_needF C_common
  have C_undBy := c_undBy (P := l.prog) (w := w) (base := base) A9
  have C_undone := c_undone A10 C_needF C_needN C_undBy
  have C_pparts := c_pparts (P := l.prog) (w := w) (base := base) A11 z_tuple
  have C_told := c_told A12 C_pparts
  have C_isP := c_isP A13 m2 C_needB C_told
  have C_partsOf := c_partsOf A14 m2 C_needB C_pparts
  have C_cell := c_cell (P := l.prog) (w := w) (base := base) A15 z_len
  have C_state := c_state A16 C_cell
  have C_take := c_take (P := l.prog) (w := w) (base := base) A17
  have C_far := c_far A18 z_range C_take
  have C_number := c_number A19 C_take C_far
  have C_farNum := c_farNum A20 C_number C_take
  have C_lparts := c_lparts (P := l.prog) (w := w) (base := base) A21
  have C_lisP := c_lisP A22 C_lparts
  have C_lprime := c_lprime A23 C_take C_lisP
  exact ok_law F z_range z_max z_min z_len C_state C_farNum C_take C_number C_far C_raised C_undone C_shared C_lprime C_isP C_partsOf
end K04
open PySem PySem.W PyProof.Rows
set_option maxHeartbeats 0 in
theorem PySem.Challenge.cw_primepapers_k04_whole_rests_holds : PySem.Challenge.rw_primepapers_k04_whole_rests.Holds := by
  w_on; o_law; k_head; (case hw => w_witness2)
  k_fill
  refine L2.walk_of (l := PySem.Challenge.rw_primepapers_k04_whole_rests) (n := 63) (k := 6) (x := "_law_script") (CX := fun _ => L2.CX0) (sp := fun w => K04.spLaw _) rfl (by decide) rfl ⟨rfl, by decide, by decide⟩ (fun w h Y => PySem.W.kIn_of Y) ?F (fun _ _ a ns hl _ hS => ⟨a, ns, rfl, hS, hl, fun _ => rfl⟩) (fun _ _ _ _ _ h => h)
  case F =>
    intro w mg fa h KX G hmg
    refine' K04.fin hmg ?M1 ?M2 ?z_isinstance ?z_int ?z_bool ?z_abs ?z_tuple ?z_len ?z_range ?z_max ?z_min ?A0 ?A1 ?A2 ?A3 ?A4 ?A5 ?A6 ?A7 ?A8 ?A9 ?A10 ?A11 ?A12 ?A13 ?A14 ?A15 ?A16 ?A17 ?A18 ?A19 ?A20 ?A21 ?A22 ?A23 ?A24
    (case M1 => ((refine' PySem.W.mg_of KX G ?a_M1); (case a_M1 => k_is)))
    (case M2 => ((refine' PySem.W.mg_of KX G ?a_M2); (case a_M2 => k_is)))
    (case z_isinstance => ((refine' PySem.W.mg_none_of KX G ?a_isinstance); (case a_isinstance => k_is)))
    (case z_int => ((refine' PySem.W.mg_none_of KX G ?a_int); (case a_int => k_is)))
    (case z_bool => ((refine' PySem.W.mg_none_of KX G ?a_bool); (case a_bool => k_is)))
    (case z_abs => ((refine' PySem.W.mg_none_of KX G ?a_abs); (case a_abs => k_is)))
    (case z_tuple => ((refine' PySem.W.mg_none_of KX G ?a_tuple); (case a_tuple => k_is)))
    (case z_len => ((refine' PySem.W.mg_none_of KX G ?a_len); (case a_len => k_is)))
    (case z_range => ((refine' PySem.W.mg_none_of KX G ?a_range); (case a_range => k_is)))
    (case z_max => ((refine' PySem.W.mg_none_of KX G ?a_max); (case a_max => k_is)))
    (case z_min => ((refine' PySem.W.mg_none_of KX G ?a_min); (case a_min => k_is)))
    (case A0 => ((refine' K04.at_mk KX G ?a0 ?l0 ?c0 ?k0 (fun _ _ _ _ _ _ us hl => match us, hl with | [_], _ => rfl)); (case a0 => k_is); (case l0 => k_is); (case c0 => k_is); (case k0 => k_is)))
    (case A1 => ((refine' K04.at_mk KX G ?a1 ?l1 ?c1 ?k1 (fun _ _ _ _ _ _ us hl => match us, hl with | [_, _, _], _ => rfl)); (case a1 => k_is); (case l1 => k_is); (case c1 => k_is); (case k1 => k_is)))
    (case A2 => ((refine' K04.at_mk KX G ?a2 ?l2 ?c2 ?k2 (fun _ _ _ _ _ _ us hl => match us, hl with | [_, _, _], _ => rfl)); (case a2 => k_is); (case l2 => k_is); (case c2 => k_is); (case k2 => k_is)))
    (case A3 => ((refine' K04.at_mk KX G ?a3 ?l3 ?c3 ?k3 (fun _ _ _ _ _ _ us hl => match us, hl with | [_], _ => rfl)); (case a3 => k_is); (case l3 => k_is); (case c3 => k_is); (case k3 => k_is)))
    (case A4 => ((refine' K04.at_mk KX G ?a4 ?l4 ?c4 ?k4 (fun _ _ _ _ _ _ us hl => match us, hl with | [_], _ => rfl)); (case a4 => k_is); (case l4 => k_is); (case c4 => k_is); (case k4 => k_is)))
    (case A5 => ((refine' K04.at_mk KX G ?a5 ?l5 ?c5 ?k5 (fun _ _ _ _ _ _ us hl => match us, hl with | [_, _, _], _ => rfl)); (case a5 => k_is); (case l5 => k_is); (case c5 => k_is); (case k5 => k_is)))
    (case A6 => ((refine' K04.at_mk KX G ?a6 ?l6 ?c6 ?k6 (fun _ _ _ _ _ _ us hl => match us, hl with | [_, _, _], _ => rfl)); (case a6 => k_is); (case l6 => k_is); (case c6 => k_is); (case k6 => k_is)))
    (case A7 => ((refine' K04.at_mk KX G ?a7 ?l7 ?c7 ?k7 (fun _ _ _ _ _ _ us hl => match us, hl with | [_, _], _ => rfl)); (case a7 => k_is); (case l7 => k_is); (case c7 => k_is); (case k7 => k_is)))
    (case A8 => ((refine' K04.at_mk KX G ?a8 ?l8 ?c8 ?k8 (fun _ _ _ _ _ _ us hl => match us, hl with | [_, _], _ => rfl)); (case a8 => k_is); (case l8 => k_is); (case c8 => k_is); (case k8 => k_is)))
    (case A9 => ((refine' K04.at_mk KX G ?a9 ?l9 ?c9 ?k9 (fun _ _ _ _ _ _ us hl => match us, hl with | [_, _], _ => rfl)); (case a9 => k_is); (case l9 => k_is); (case c9 => k_is); (case k9 => k_is)))
    (case A10 => ((refine' K04.at_mk KX G ?a10 ?l10 ?c10 ?k10 (fun _ _ _ _ _ _ us hl => match us, hl with | [_, _], _ => rfl)); (case a10 => k_is); (case l10 => k_is); (case c10 => k_is); (case k10 => k_is)))
    (case A11 => ((refine' K04.at_mk KX G ?a11 ?l11 ?c11 ?k11 (fun _ _ _ _ _ _ us hl => match us, hl with | [_], _ => rfl)); (case a11 => k_is); (case l11 => k_is); (case c11 => k_is); (case k11 => k_is)))
    (case A12 => ((refine' K04.at_mk KX G ?a12 ?l12 ?c12 ?k12 (fun _ _ _ _ _ _ us hl => match us, hl with | [_], _ => rfl)); (case a12 => k_is); (case l12 => k_is); (case c12 => k_is); (case k12 => k_is)))
    (case A13 => ((refine' K04.at_mk KX G ?a13 ?l13 ?c13 ?k13 (fun _ _ _ _ _ _ us hl => match us, hl with | [_], _ => rfl)); (case a13 => k_is); (case l13 => k_is); (case c13 => k_is); (case k13 => k_is)))
    (case A14 => ((refine' K04.at_mk KX G ?a14 ?l14 ?c14 ?k14 (fun _ _ _ _ _ _ us hl => match us, hl with | [_], _ => rfl)); (case a14 => k_is); (case l14 => k_is); (case c14 => k_is); (case k14 => k_is)))
    (case A15 => ((refine' K04.at_mk KX G ?a15 ?l15 ?c15 ?k15 (fun _ _ _ _ _ _ us hl => match us, hl with | [_, _], _ => rfl)); (case a15 => k_is); (case l15 => k_is); (case c15 => k_is); (case k15 => k_is)))
    (case A16 => ((refine' K04.at_mk KX G ?a16 ?l16 ?c16 ?k16 (fun _ _ _ _ _ _ us hl => match us, hl with | [_, _], _ => rfl)); (case a16 => k_is); (case l16 => k_is); (case c16 => k_is); (case k16 => k_is)))
    (case A17 => ((refine' K04.at_mk KX G ?a17 ?l17 ?c17 ?k17 (fun _ _ _ _ _ _ us hl => match us, hl with | [_, _], _ => rfl)); (case a17 => k_is); (case l17 => k_is); (case c17 => k_is); (case k17 => k_is)))
    (case A18 => ((refine' K04.at_mk KX G ?a18 ?l18 ?c18 ?k18 (fun _ _ _ _ _ _ us hl => match us, hl with | [_, _], _ => rfl)); (case a18 => k_is); (case l18 => k_is); (case c18 => k_is); (case k18 => k_is)))
    (case A19 => ((refine' K04.at_mk KX G ?a19 ?l19 ?c19 ?k19 (fun _ _ _ _ _ _ us hl => match us, hl with | [_], _ => rfl)); (case a19 => k_is); (case l19 => k_is); (case c19 => k_is); (case k19 => k_is)))
    (case A20 => ((refine' K04.at_mk KX G ?a20 ?l20 ?c20 ?k20 (fun _ _ _ _ _ _ us hl => match us, hl with | [_], _ => rfl)); (case a20 => k_is); (case l20 => k_is); (case c20 => k_is); (case k20 => k_is)))
    (case A21 => ((refine' K04.at_mk KX G ?a21 ?l21 ?c21 ?k21 (fun _ _ _ _ _ _ us hl => match us, hl with | [_], _ => rfl)); (case a21 => k_is); (case l21 => k_is); (case c21 => k_is); (case k21 => k_is)))
    (case A22 => ((refine' K04.at_mk KX G ?a22 ?l22 ?c22 ?k22 (fun _ _ _ _ _ _ us hl => match us, hl with | [_], _ => rfl)); (case a22 => k_is); (case l22 => k_is); (case c22 => k_is); (case k22 => k_is)))
    (case A23 => ((refine' K04.at_mk KX G ?a23 ?l23 ?c23 ?k23 (fun _ _ _ _ _ _ us hl => match us, hl with | [_, _], _ => rfl)); (case a23 => k_is); (case l23 => k_is); (case c23 => k_is); (case k23 => k_is)))
    (case A24 => ((refine' K04.at_mk KX G ?a24 ?l24 ?c24 ?k24 (fun _ _ _ _ _ _ us hl => match us, hl with | [_], _ => rfl)); (case a24 => k_is); (case l24 => k_is); (case c24 => k_is); (case k24 => k_is)))

