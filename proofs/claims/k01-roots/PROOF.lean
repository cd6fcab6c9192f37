import PyProof.Rows.All
import Wide.All
import OpenK.AllK
import Wide.FinOn
import HandS.ForMost
import HandS.Wide
import HandS.IsInst
import HandS.Style
import HandS.Conv
import HandS.EndBits
import HandS.More
import HandS.Walk
import PySem.Challenge.RW_arrowdots_k01_roots
set_option Elab.async false
set_option linter.all false
set_option maxRecDepth 100000
set_option maxHeartbeats 4000000
namespace AD
/-! ### the loops as plain functions -/
def plenAux (p g : Nat) : Nat → Nat → Nat → Nat
  | 0, _, n => n
  | f + 1, x, n => match Nat.beq x 1 with
    | true => n
    | false => plenAux p g f (x * g % p) (n + 1)
/-- how many powers there are to 1 -/
def plen (p g : Nat) : Nat := plenAux p g (p - 1) (g % p) 1
def stripN (a : Nat) : Nat → Nat → Nat
  | 0, left => left
  | f + 1, left => match Nat.beq (left % a) 0 with
    | true => stripN a f (left / a)
    | false => left
def rootLoop (p g : Nat) : Nat → Nat → Nat → Bool
  | 0, _, _ => true
  | f + 1, left, a => match Nat.ble left 1 with
    | true => true
    | false => match Nat.beq (left % a) 0 with
      | true => match Nat.beq (g ^ ((p - 1) / a) % p) 1 with
        | true => false
        | false => rootLoop p g f (stripN a left left) (a + 1)
      | false => rootLoop p g f left (a + 1)
def rootB (p g : Nat) : Bool := rootLoop p g p (p - 1) 2
def primeLoop (n : Nat) : Nat → Nat → Bool
  | 0, _ => true
  | f + 1, a => match Nat.ble (a * a) n with
    | false => true
    | true => match Nat.beq (n % a) 0 with
      | true => false
      | false => primeLoop n f (a + 1)
def primeB (n : Nat) : Bool := primeLoop n n 2
def allTo (f : Nat → Bool) : Nat → Bool
  | 0 => true
  | n + 1 => match f n with
    | true => allTo f n
    | false => false
theorem allTo_at {f : Nat → Bool} : ∀ {n : Nat}, allTo f n = true → ∀ i, i < n → f i = true
  | 0, _, i, h => absurd h (Nat.not_lt_zero i)
  | n + 1, e, i, h => by
    unfold allTo at e
    cases q : f n with
    | false => rw [q] at e; cases e
    | true =>
      rw [q] at e
      by_cases z : i = n
      · rw [z]; exact q
      · exact allTo_at e i (by omega)
def ferB (p : Nat) : Bool := allTo (fun x => Nat.beq ((x + 1) ^ (p - 1) % p) 1) (p - 1)
def rtB (p : Nat) : Bool := allTo (fun x => rootB p (x + 1) == Nat.beq (plen p (x + 1)) (p - 1)) (p - 1)

/-- what is known of a prime -/
structure Good (p : Nat) : Prop where
  lo : 3 ≤ p
  hi : p ≤ 2000
  pr : primeB p = true
  fer : ferB p = true

theorem Good.fer1 {p x : Nat} (G : Good p) (h1 : 1 ≤ x) (h2 : x < p) : x ^ (p - 1) % p = 1 := by
  have h := allTo_at G.fer (x - 1) (by omega)
  have e : x - 1 + 1 = x := by omega
  rw [e] at h
  exact Nat.eq_of_beq_eq_true h
theorem rt_of {p g : Nat} (h : rtB p = true) (h1 : 1 ≤ g) (h2 : g < p) : rootB p g = decide (plen p g = p - 1) := by
  have h := allTo_at h (g - 1) (by omega)
  have e : g - 1 + 1 = g := by omega
  rw [e] at h
  rw [eq_of_beq h]
  by_cases z : plen p g = p - 1
  · rw [decide_eq_true z, z]; exact Nat.beq_refl _
  · rw [decide_eq_false z]
    cases q : Nat.beq (plen p g) (p - 1) with
    | false => rfl
    | true => exact absurd (Nat.eq_of_beq_eq_true q) z

/-! ### how many powers -/
theorem plenAux_spec (p g : Nat) : ∀ (f n : Nat), ∃ m, plenAux p g f (g ^ n % p) n = m ∧ n ≤ m ∧ m ≤ n + f ∧ (∀ k, n ≤ k → k < m → g ^ k % p ≠ 1) ∧ (m < n + f → g ^ m % p = 1)
  | 0, n => ⟨n, rfl, Nat.le_refl _, Nat.le_refl _, fun k h1 h2 => by omega, fun h => by omega⟩
  | f + 1, n => by
    unfold plenAux
    cases q : Nat.beq (g ^ n % p) 1 with
    | true => exact ⟨n, rfl, Nat.le_refl _, by omega, fun k h1 h2 => by omega, fun _ => Nat.eq_of_beq_eq_true q⟩
    | false =>
      have e : g ^ n % p * g % p = g ^ (n + 1) % p := by rw [Nat.pow_succ, Nat.mod_mul_mod]
      show ∃ m, plenAux p g f (g ^ n % p * g % p) (n + 1) = m ∧ _
      rw [e]
      obtain ⟨m, h0, h1, h2, h3, h4⟩ := plenAux_spec p g f (n + 1)
      refine ⟨m, h0, by omega, by omega, fun k k1 k2 => ?_, fun h => h4 (by omega)⟩
      by_cases z : k = n
      · subst z
        intro y
        rw [y] at q
        cases q
      · exact h3 k (by omega) k2
theorem plen_spec (p g : Nat) (hp : 1 ≤ p) : 1 ≤ plen p g ∧ plen p g ≤ p ∧ (∀ k, 1 ≤ k → k < plen p g → g ^ k % p ≠ 1) ∧ (plen p g < p → g ^ plen p g % p = 1) := by
  obtain ⟨m, h0, h1, h2, h3, h4⟩ := plenAux_spec p g (p - 1) 1
  rw [Nat.pow_one] at h0
  have e : plen p g = m := h0
  rw [e]
  exact ⟨h1, by omega, h3, fun h => h4 (by omega)⟩
theorem plen_unique {p g n : Nat} (hp : 1 ≤ p) (h1 : 1 ≤ n) (h2 : n ≤ p) (h3 : ∀ k, 1 ≤ k → k < n → g ^ k % p ≠ 1) (h4 : g ^ n % p = 1 ∨ n = p) : plen p g = n := by
  obtain ⟨a1, a2, a3, a4⟩ := plen_spec p g hp
  rcases Nat.lt_trichotomy (plen p g) n with h | h | h
  · exact absurd (a4 (by omega)) (h3 _ a1 h)
  · exact h
  · rcases h4 with z | z
    · exact absurd z (a3 n h1 h)
    · omega

/-! ### what is left by a prime -/
theorem Good.ferm {p x : Nat} (G : Good p) (h : x % p ≠ 0) : x ^ (p - 1) % p = 1 := by
  have lo := G.lo
  rw [Nat.pow_mod]
  exact G.fer1 (by omega) (Nat.mod_lt _ (by omega))
/-- the last but one power is what makes 1 of a number -/
theorem Good.inv {p x : Nat} (G : Good p) (h : x % p ≠ 0) : x ^ (p - 2) * x % p = 1 := by
  have lo := G.lo
  rw [← Nat.pow_succ, show (p - 2).succ = p - 1 by omega]
  exact G.ferm h
theorem mul_left_mod {p a b : Nat} (c : Nat) (h : a % p = b % p) : c * a % p = c * b % p := by
  rw [Nat.mul_mod, h, ← Nat.mul_mod]
theorem mul_right_mod {p a b : Nat} (c : Nat) (h : a % p = b % p) : a * c % p = b * c % p := by
  rw [Nat.mul_mod, h, ← Nat.mul_mod]
theorem Good.cancel {p x a b : Nat} (G : Good p) (h : x % p ≠ 0) (e : x * a % p = x * b % p) : a % p = b % p := by
  have lo := G.lo
  have k : ∀ c, x ^ (p - 2) * (x * c) % p = c % p := fun c => by
    rw [← Nat.mul_assoc, Nat.mul_mod, G.inv h, Nat.one_mul, Nat.mod_mod]
  have z := mul_left_mod (x ^ (p - 2)) e
  rw [k, k] at z
  exact z
theorem Good.mul_ne {p a b : Nat} (G : Good p) (ha : a % p ≠ 0) (hb : b % p ≠ 0) : a * b % p ≠ 0 := fun z => by
  have e : a * b % p = a * 0 % p := by rw [z, Nat.mul_zero, Nat.zero_mod]
  exact hb (by rw [G.cancel ha e, Nat.zero_mod])
theorem Good.pow_ne {p g : Nat} (G : Good p) (hg : g % p ≠ 0) : ∀ n, g ^ n % p ≠ 0
  | 0 => by
    have lo := G.lo
    rw [Nat.pow_zero, Nat.mod_eq_of_lt (by omega)]
    exact Nat.one_ne_zero
  | n + 1 => by
    rw [Nat.pow_succ]
    exact G.mul_ne (G.pow_ne hg n) hg
theorem Good.pow_pos {p g : Nat} (G : Good p) (hg : g % p ≠ 0) (n : Nat) : 1 ≤ g ^ n % p := Nat.pos_of_ne_zero (G.pow_ne hg n)

theorem Good.plen_le {p g : Nat} (G : Good p) (h1 : 1 ≤ g) (h2 : g < p) : plen p g ≤ p - 1 := by
  have lo := G.lo
  obtain ⟨a1, a2, a3, a4⟩ := plen_spec p g (by omega)
  rcases Nat.lt_or_ge (p - 1) (plen p g) with z | z
  · exact absurd (G.fer1 h1 h2) (a3 (p - 1) (by omega) z)
  · exact z
/-! ### a root -/
/-- a root of a prime -/
structure Root (p g : Nat) : Prop where
  good : Good p
  one : 1 ≤ g
  lt : g < p
  len : plen p g = p - 1
theorem Root.ne {p g : Nat} (R : Root p g) : g % p ≠ 0 := by
  have h := R.one
  rw [Nat.mod_eq_of_lt R.lt]
  omega
theorem Root.per {p g : Nat} (R : Root p g) (n : Nat) : g ^ (n % (p - 1)) % p = g ^ n % p := by
  have lo := R.good.lo
  conv => rhs; rw [← Nat.div_add_mod n (p - 1), Nat.pow_add, Nat.pow_mul, Nat.mul_mod, Nat.pow_mod, R.good.ferm R.ne, Nat.one_pow, ← Nat.mul_mod, Nat.one_mul]
theorem Root.inj0 {p g i d : Nat} (R : Root p g) (hd : 1 ≤ d) (hd2 : d < p - 1) : g ^ i % p ≠ g ^ (i + d) % p := fun e => by
  have lo := R.good.lo
  rw [Nat.pow_add] at e
  have e1 : g ^ i * 1 % p = g ^ i * g ^ d % p := by rw [Nat.mul_one]; exact e
  have e2 := R.good.cancel (R.good.pow_ne R.ne i) e1
  rw [Nat.mod_eq_of_lt (show 1 < p by omega)] at e2
  exact (plen_spec p g (by omega)).2.2.1 d hd (by rw [R.len]; omega) e2.symm
theorem Root.inj {p g i j : Nat} (R : Root p g) (hi : i < p - 1) (hj : j < p - 1) (e : g ^ i % p = g ^ j % p) : i = j := by
  rcases Nat.lt_trichotomy i j with h | h | h
  · exact absurd (by rw [show i + (j - i) = j by omega]; exact e) (R.inj0 (i := i) (d := j - i) (by omega) (by omega))
  · exact h
  · exact absurd (by rw [show j + (i - j) = i by omega]; exact e.symm) (R.inj0 (i := j) (d := i - j) (by omega) (by omega))
/-- equal powers: the numbers differ by a multiple of one less than the prime -/
theorem Root.injm {p g i j : Nat} (R : Root p g) (e : g ^ i % p = g ^ j % p) : i % (p - 1) = j % (p - 1) := by
  have lo := R.good.lo
  rw [← R.per i, ← R.per j] at e
  exact R.inj (Nat.mod_lt _ (by omega)) (Nat.mod_lt _ (by omega)) e

/-! ### as many places as things -/
theorem nodup_len : ∀ (n : Nat) (l : List Nat), l.Nodup → (∀ x ∈ l, x < n) → l.length ≤ n
  | 0, l, _, h => by
    cases l with
    | nil => exact Nat.le_refl _
    | cons x r => exact absurd (h x (List.mem_cons_self ..)) (Nat.not_lt_zero x)
  | n + 1, l, hn, h => by
    have h1 : (l.erase n).Nodup := hn.erase n
    have h2 := nodup_len n (l.erase n) h1 fun x hx => by
      have a := h x (List.mem_of_mem_erase hx)
      have b : x ≠ n := fun e => by
        subst e
        exact (List.Nodup.mem_erase_iff hn).mp hx |>.1 rfl
      omega
    have h3 := List.length_erase (a := n) (l := l)
    rw [h3] at h2
    split at h2 <;> omega
theorem nodup_full {n : Nat} {l : List Nat} (hn : l.Nodup) (h : ∀ x ∈ l, x < n) (hl : l.length = n) {x : Nat} (hx : x < n) : x ∈ l := by
  by_cases m : x ∈ l
  · exact m
  · have h1 : (x :: l).Nodup := List.nodup_cons.mpr ⟨m, hn⟩
    have h2 := nodup_len n (x :: l) h1 fun y hy => by
      rcases List.mem_cons.mp hy with e | e
      · rw [e]; exact hx
      · exact h y e
    rw [List.length_cons] at h2
    omega
theorem map_nodup {α β : Type} {f : α → β} : ∀ {l : List α}, l.Nodup → (∀ x ∈ l, ∀ y ∈ l, f x = f y → x = y) → (l.map f).Nodup
  | [], _, _ => List.nodup_nil
  | a :: r, h, hi => by
    obtain ⟨h1, h2⟩ := List.nodup_cons.mp h
    refine List.nodup_cons.mpr ⟨fun m => ?_, map_nodup h2 fun x hx y hy => hi x (List.mem_cons_of_mem _ hx) y (List.mem_cons_of_mem _ hy)⟩
    obtain ⟨b, hb, e⟩ := List.mem_map.mp m
    have z := hi b (List.mem_cons_of_mem _ hb) a (List.mem_cons_self ..) e
    rw [z] at hb
    exact h1 hb
/-- every number from 1 to below the prime is a power -/
theorem Root.onto {p g x : Nat} (R : Root p g) (h1 : 1 ≤ x) (h2 : x < p) : ∃ k, k < p - 1 ∧ g ^ k % p = x := by
  have lo := R.good.lo
  let l := (List.range (p - 1)).map fun k => g ^ k % p - 1
  have hn : l.Nodup := map_nodup List.nodup_range fun i hi j hj e => by
    have a := R.good.pow_pos R.ne i
    have b := R.good.pow_pos R.ne j
    exact R.inj (List.mem_range.mp hi) (List.mem_range.mp hj) (by omega)
  have hb : ∀ y ∈ l, y < p - 1 := fun y hy => by
    obtain ⟨k, hk, e⟩ := List.mem_map.mp hy
    have a := R.good.pow_pos R.ne k
    have b := Nat.mod_lt (g ^ k) (show p > 0 by omega)
    omega
  have hm := nodup_full hn hb (by rw [List.length_map, List.length_range]) (x := x - 1) (by omega)
  obtain ⟨k, hk, e⟩ := List.mem_map.mp hm
  have a := R.good.pow_pos R.ne k
  exact ⟨k, List.mem_range.mp hk, by omega⟩
end AD
namespace AD
/-! ### the law's primes -/
def PS0 : List Nat := [3, 5, 7, 11, 13, 17, 19, 23, 29, 31, 37, 41, 43, 47, 53, 59, 61]
def PG0 : List Nat := [97, 101, 257, 331, 499]
def lrAux (p : Nat) : Nat → Nat → Nat
  | 0, g => g
  | f + 1, g => match Nat.beq (plen p g) (p - 1) with
    | true => g
    | false => lrAux p f (g + 1)
/-- the least root -/
def lr (p : Nat) : Nat := lrAux p p 1
def goodB (p : Nat) : Bool := Nat.ble 3 p && (Nat.ble p 2000 && (primeB p && ferB p))
def lrB (p : Nat) : Bool := Nat.ble 1 (lr p) && (Nat.blt (lr p) p && (Nat.beq (plen p (lr p)) (p - 1) && allTo (fun x => !Nat.beq (plen p (x + 1)) (p - 1)) (lr p - 1)))
theorem good_of {p : Nat} (h : goodB p = true) : Good p := by
  unfold goodB at h
  simp only [Bool.and_eq_true] at h
  exact ⟨Nat.le_of_ble_eq_true h.1, Nat.le_of_ble_eq_true h.2.1, h.2.2.1, h.2.2.2⟩
theorem lr_of {p : Nat} (G : Good p) (h : lrB p = true) : Root p (lr p) ∧ ∀ g, 1 ≤ g → g < lr p → plen p g ≠ p - 1 := by
  unfold lrB at h
  simp only [Bool.and_eq_true] at h
  refine ⟨⟨G, Nat.le_of_ble_eq_true h.1, Nat.le_of_ble_eq_true h.2.1, Nat.eq_of_beq_eq_true h.2.2.1⟩, fun g g1 g2 z => ?_⟩
  have k := allTo_at h.2.2.2 (g - 1) (by omega)
  have e : g - 1 + 1 = g := by omega
  rw [e, z] at k
  rw [show Nat.beq (p - 1) (p - 1) = true from Nat.beq_refl _] at k
  cases k
theorem good_all : (PS0 ++ PG0).all (fun p => goodB p && lrB p) = true := by decide +kernel
theorem rt_all : (PS0 ++ PG0).all (fun p => rtB p) = true := by decide +kernel
theorem good71 : (goodB 71 && lrB 71) = true := by decide +kernel
theorem rt71 : rtB 71 = true := by decide +kernel
/-- what is known of a law's prime -/
structure Prm (p : Nat) : Prop where
  good : Good p
  rt : rtB p = true
  root : Root p (lr p)
  least : ∀ g, 1 ≤ g → g < lr p → plen p g ≠ p - 1
theorem prm_mk {p : Nat} (h1 : (goodB p && lrB p) = true) (h2 : rtB p = true) : Prm p := by
  rw [Bool.and_eq_true] at h1
  have G := good_of h1.1
  obtain ⟨a, b⟩ := lr_of G h1.2
  exact ⟨G, h2, a, b⟩
theorem prm_in {p : Nat} (h : p ∈ PS0 ++ PG0) : Prm p := prm_mk (List.all_eq_true.mp good_all p h) (List.all_eq_true.mp rt_all p h)
theorem prm71 : Prm 71 := prm_mk good71 rt71
theorem Prm.rootB {p g : Nat} (P : Prm p) (h1 : 1 ≤ g) (h2 : g < p) : rootB p g = decide (plen p g = p - 1) := rt_of P.rt h1 h2
theorem Root.rootB {p g : Nat} (R : Root p g) (P : Prm p) : AD.rootB p g = true := by
  rw [P.rootB R.one R.lt]
  exact decide_eq_true R.len
theorem Prm.lroot {p : Nat} (P : Prm p) : AD.rootB p (lr p) = true := P.root.rootB P
theorem Prm.lnot {p g : Nat} (P : Prm p) (h1 : 1 ≤ g) (h2 : g < lr p) : AD.rootB p g = false := by
  have h3 := P.root.lt
  rw [P.rootB h1 (by omega)]
  exact decide_eq_false (P.least g h1 h2)
end AD
namespace Lw
open PySem PySem.Spec PyProof.Rows L2 AD
def topS (i : Nat) : Stmt := PySem.Challenge.pw_arrowdots_k01_roots.main.body.getD i (.Pass ⟨0, 0, 0, 0⟩)
abbrev s_is_whole : Stmt := topS 6
abbrev s_is_prime : Stmt := topS 7
abbrev s_asked_prime : Stmt := topS 8
abbrev s_power : Stmt := topS 9
abbrev s_root_of : Stmt := topS 10
abbrev s_is_root : Stmt := topS 11
abbrev s_least_root : Stmt := topS 12
abbrev s__law_number : Stmt := topS 14
abbrev s__law_prime : Stmt := topS 15
abbrev s__law_powers : Stmt := topS 16
abbrev s__law_root : Stmt := topS 17
abbrev s__law_plan : Stmt := topS 18
abbrev s__law_rows : Stmt := topS 19
abbrev s_law : Stmt := topS 20
theorem sc_is_whole : FnScope ["thing"] ["thing"] (defScope s_is_whole) :=
  ⟨rfl, rfl, rfl, by decide +kernel, rfl, by decide +kernel, by decide +kernel⟩
theorem sc_is_prime : FnScope ["number", "at"] ["number"] (defScope s_is_prime) :=
  ⟨rfl, rfl, rfl, by decide +kernel, rfl, by decide +kernel, by decide +kernel⟩
theorem sc_asked_prime : FnScope ["prime", "most"] ["prime", "most"] (defScope s_asked_prime) :=
  ⟨rfl, rfl, rfl, by decide +kernel, rfl, by decide +kernel, by decide +kernel⟩
theorem sc_power : FnScope ["number", "times", "prime", "found"] ["number", "times", "prime"] (defScope s_power) :=
  ⟨rfl, rfl, rfl, by decide +kernel, rfl, by decide +kernel, by decide +kernel⟩
theorem sc_root_of : FnScope ["prime", "number", "many", "left", "at"] ["prime", "number"] (defScope s_root_of) :=
  ⟨rfl, rfl, rfl, by decide +kernel, rfl, by decide +kernel, by decide +kernel⟩
theorem sc_is_root : FnScope ["prime", "number"] ["prime", "number"] (defScope s_is_root) :=
  ⟨rfl, rfl, rfl, by decide +kernel, rfl, by decide +kernel, by decide +kernel⟩
theorem sc_least_root : FnScope ["prime", "number"] ["prime"] (defScope s_least_root) :=
  ⟨rfl, rfl, rfl, by decide +kernel, rfl, by decide +kernel, by decide +kernel⟩
theorem sc__law_number : FnScope ["_law_cell", "_law_at", "_law_whole", "_law_mixed", "_law_more"] ["_law_cell", "_law_at", "_law_whole"] (defScope s__law_number) :=
  ⟨rfl, rfl, rfl, by decide +kernel, rfl, by decide +kernel, by decide +kernel⟩
theorem sc__law_prime : FnScope ["_law_number_here", "_law_small"] ["_law_number_here"] (defScope s__law_prime) :=
  ⟨rfl, rfl, rfl, by decide +kernel, rfl, by decide +kernel, by decide +kernel⟩
theorem sc__law_powers : FnScope ["_law_prime_here", "_law_number_here", "_law_found"] ["_law_prime_here", "_law_number_here"] (defScope s__law_powers) :=
  ⟨rfl, rfl, rfl, by decide +kernel, rfl, by decide +kernel, by decide +kernel⟩
theorem sc__law_root : FnScope ["_law_prime_here", "_law_number_here", "_law_at"] ["_law_prime_here", "_law_number_here"] (defScope s__law_root) :=
  ⟨rfl, rfl, rfl, by decide +kernel, rfl, by decide +kernel, by decide +kernel⟩
theorem sc__law_plan : FnScope ["_law_script", "_law_by", "_law_cells", "_law_number_here", "_law_prime_here", "_law_begin"] ["_law_script", "_law_by"] (defScope s__law_plan) :=
  ⟨rfl, rfl, rfl, by decide +kernel, rfl, by decide +kernel, by decide +kernel⟩
theorem sc__law_rows : FnScope ["_law_prime_here", "_law_root_here", "_law_begin", "_law_at", "_law_turn", "_law_found", "_law_column"] ["_law_prime_here", "_law_root_here", "_law_begin"] (defScope s__law_rows) :=
  ⟨rfl, rfl, rfl, by decide +kernel, rfl, by decide +kernel, by decide +kernel⟩
theorem sc_law : FnScope ["_law_script", "_law_at", "_law_cell", "_law_number_here", "_law_prime_here", "_law_some", "_law_one", "_law_found", "_law_least"] ["_law_script"] (defScope s_law) :=
  ⟨rfl, rfl, rfl, by decide +kernel, rfl, by decide +kernel, by decide +kernel⟩
/-- what stands behind the top: the names left to Python, the constants, the defs -/
structure Txt (K : PySem.W.Frag) (mg : Str → Option Value) (fa : Nat → Addr) (fd : Nat → FuncData) (tk : Nat → Tok) : Prop where
  m_ValueError : mg "ValueError" = none
  m_bool : mg "bool" = none
  m_enumerate : mg "enumerate" = none
  m_int : mg "int" = none
  m_isinstance : mg "isinstance" = none
  m_len : mg "len" = none
  m_list : mg "list" = none
  m_min : mg "min" = none
  m_range : mg "range" = none
  g_MOST : mg "MOST" = some (.int 2000 (tk 0))
  g_is_whole : mg "is_whole" = some (.ref (fa 0))
  F_is_whole : Fun K "is_whole" "is_whole" s_is_whole (fa 0) (fd 0)
  b_is_whole : Binds K (fd 0) ["thing"] []
  g_is_prime : mg "is_prime" = some (.ref (fa 1))
  F_is_prime : Fun K "is_prime" "is_prime" s_is_prime (fa 1) (fd 1)
  b_is_prime : Binds K (fd 1) ["number"] []
  g_asked_prime : mg "asked_prime" = some (.ref (fa 2))
  F_asked_prime : Fun K "asked_prime" "asked_prime" s_asked_prime (fa 2) (fd 2)
  b_asked_prime : Binds K (fd 2) ["prime", "most"] []
  g_power : mg "power" = some (.ref (fa 3))
  F_power : Fun K "power" "power" s_power (fa 3) (fd 3)
  b_power : Binds K (fd 3) ["number", "times", "prime"] []
  g_root_of : mg "root_of" = some (.ref (fa 4))
  F_root_of : Fun K "root_of" "root_of" s_root_of (fa 4) (fd 4)
  b_root_of : Binds K (fd 4) ["prime", "number"] []
  g_is_root : mg "is_root" = some (.ref (fa 5))
  F_is_root : Fun K "is_root" "is_root" s_is_root (fa 5) (fd 5)
  b_is_root : Binds K (fd 5) ["prime", "number"] []
  g_least_root : mg "least_root" = some (.ref (fa 6))
  F_least_root : Fun K "least_root" "least_root" s_least_root (fa 6) (fd 6)
  b_least_root : Binds K (fd 6) ["prime"] []
  g__law_number : mg "_law_number" = some (.ref (fa 7))
  F__law_number : Fun K "_law_number" "_law_number" s__law_number (fa 7) (fd 7)
  b__law_number : Binds K (fd 7) ["_law_cell", "_law_at", "_law_whole"] []
  g__law_prime : mg "_law_prime" = some (.ref (fa 8))
  F__law_prime : Fun K "_law_prime" "_law_prime" s__law_prime (fa 8) (fd 8)
  b__law_prime : Binds K (fd 8) ["_law_number_here"] []
  g__law_powers : mg "_law_powers" = some (.ref (fa 9))
  F__law_powers : Fun K "_law_powers" "_law_powers" s__law_powers (fa 9) (fd 9)
  b__law_powers : Binds K (fd 9) ["_law_prime_here", "_law_number_here"] []
  g__law_root : mg "_law_root" = some (.ref (fa 10))
  F__law_root : Fun K "_law_root" "_law_root" s__law_root (fa 10) (fd 10)
  b__law_root : Binds K (fd 10) ["_law_prime_here", "_law_number_here"] []
  g__law_plan : mg "_law_plan" = some (.ref (fa 11))
  F__law_plan : Fun K "_law_plan" "_law_plan" s__law_plan (fa 11) (fd 11)
  b__law_plan : Binds K (fd 11) ["_law_script", "_law_by"] []
  g__law_rows : mg "_law_rows" = some (.ref (fa 12))
  F__law_rows : Fun K "_law_rows" "_law_rows" s__law_rows (fa 12) (fd 12)
  b__law_rows : Binds K (fd 12) ["_law_prime_here", "_law_root_here", "_law_begin"] []
  g_law : mg "law" = some (.ref (fa 13))
  F_law : Fun K "law" "law" s_law (fa 13) (fd 13)
  b_law : Binds K (fd 13) ["_law_script"] []
section
variable {P : Program} {w : World} {K : PySem.W.Frag} {mg : Str → Option Value} {base : Heap}
variable {fa : Nat → Addr} {fd : Nat → FuncData} {tk : Nat → Tok}
end
end Lw
namespace Lw
open PySem PySem.Spec PyProof.Rows L2 AD
section
variable {P : Program} {w : World} {K : PySem.W.Frag} {mg : Str → Option Value} {base : Heap}
variable {fa : Nat → Addr} {fd : Nat → FuncData} {tk : Nat → Tok}
/-! ### small things -/
theorem op_mulB {X : Cx} : OpR X (binaryOp .Mult) (rI IntMulOk fun i j => .int (i * j)) :=
  opI fun _ _ _ _ _ _ _ hc q => mul_int q hc
theorem mulL {i j : Int} (h1 : -(2 ^ 64) < i) (h2 : i < 2 ^ 64) : IntMulOk i j := .of_left (intBits_le_64 h1 h2)
theorem mulR {i j : Int} (h1 : -(2 ^ 64) < j) (h2 : j < 2 ^ 64) : IntMulOk i j := .of_right (intBits_le_64 h1 h2)
theorem same_upd {H : Hp} {p : Addr} {o : HO} (h : H p = none) : Same H (upd H p o) := fun b x e => by
  rw [upd_ne (ne_of_none e h)]
  exact e
theorem dec_vint {i j : Int} : (decide (V.int i = V.int j) = true) = (i = j) := by
  apply propext
  rw [decide_eq_true_iff]
  exact ⟨fun e => V.int.inj e, fun e => by rw [e]⟩
theorem dF {c : Prop} [Decidable c] (e : ¬ (decide c = true)) : ¬ c := fun h => e (decide_eq_true h)
theorem dT {c : Prop} [Decidable c] (e : decide c = true) : c := of_decide_eq_true e
theorem z2 : (0 : Int) < 2 := by decide
end
end Lw
namespace Lw
open PySem PySem.Spec PyProof.Rows L2 AD
section
variable {P : Program} {w : World} {K : PySem.W.Frag} {mg : Str → Option Value} {base : Heap}
variable {fa : Nat → Addr} {fd : Nat → FuncData} {tk : Nat → Tok}
/-! ### power -/
def spPower : Sp := fun vs H Q _ => ∃ a t p : Nat, vs = [.int a, .int t, .int p] ∧ 2 ≤ p ∧ p ≤ 2000 ∧ a ≤ 2000 ∧ Q (.int ((a ^ t % p : Nat) : Int)) H
theorem pow_step0 {p f a t : Nat} (h : t % 2 = 0) : f * (a * a % p) ^ (t / 2) % p = f * a ^ t % p := by
  have e : t = 2 * (t / 2) := by omega
  conv => rhs; rw [e, Nat.pow_mul, Nat.pow_two, Nat.mul_mod, Nat.pow_mod, ← Nat.mul_mod]
theorem pow_step1 {p f a t : Nat} (h : t % 2 = 1) : (f * a % p) * (a * a % p) ^ (t / 2) % p = f * a ^ t % p := by
  have e : t = 2 * (t / 2) + 1 := by omega
  conv => rhs; rw [e, Nat.pow_succ, Nat.pow_mul, Nat.pow_two, Nat.mul_comm _ a, ← Nat.mul_assoc, Nat.mul_mod, Nat.pow_mod, ← Nat.mul_mod]
  rw [Nat.mul_mod, Nat.pow_mod, Nat.mod_mod, Nat.mod_mod, ← Nat.mul_mod]
theorem ok_power (T : Txt K mg fa fd tk) : FnOk P w K mg base CX0 1 (fa 3) (fd 3) ["number", "times", "prime"] spPower := by
  refine T.F_power.ok sc_power (fun vs H Q E h => ?_) (fun cdv A outer s H vs Q E hr h => ?_)
  · obtain ⟨a, t, p, rfl, _⟩ := h
    rfl
  · obtain ⟨a, t, p, rfl, hp, hp2, ha, q⟩ := h
    refine ⟨_, (pss_cons (ps_set (i := 3) sc_power.nd rfl (.inl rfl) pe_int)
      (pss_cons (ps_while PassesOwn.never (pt_cmpR op_gt (pv 1) pe_int (nomark _)) (pss_cons (ps_if (pt_cmpR op_eq (pe_op op_mod (pv 1) pe_int) pe_int (nomark _)) (pss_one (ps_set (i := 3) sc_power.nd rfl (.inl rfl) (pe_op op_mod (pe_op op_mulB (pv 3) (pv 0)) (pv 2)))) pss_nil)
      (pss_cons (ps_set (i := 0) sc_power.nd rfl (.inl rfl) (pe_op op_mod (pe_op op_mulB (pv 0) (pv 0)) (pv 2)))
      (pss_one (ps_set (i := 1) sc_power.nd rfl (.inl rfl) (pe_op op_fdiv (pv 1) pe_int))))))
      (pss_one (ps_ret (pv 3))))), ?_⟩
    refine ⟨fun m σ H' => H' = H ∧ ∃ a' f' : Nat, σ = [some (.int a'), some (.int m), some (.int p), some (.int f')] ∧ a' ≤ 2000 ∧ f' < p ∧ f' * a' ^ m % p = a ^ t % p, ⟨t, rfl, a, 1, rfl, ha, by omega, by rw [Nat.one_mul]⟩, fun m σ H' hW => ?_⟩
    obtain ⟨rfl, a', f', rfl, ha', hf', he⟩ := hW
    refine ⟨_, rfl, _, _, rfl, rfl, _, rfl, ite2 (fun e => ?_) (fun e => ?_)⟩
    · have hm : 0 < m := by have := of_decide_eq_true e; omega
      refine ⟨fun σ' H'' => ∃ m', m' < m ∧ H'' = H' ∧ ∃ a' f' : Nat, σ' = [some (.int a'), some (.int m'), some (.int p), some (.int f')] ∧ a' ≤ 2000 ∧ f' < p ∧ f' * a' ^ m' % p = a ^ t % p, fun _ _ h => h, ?_⟩
      refine ⟨_, rfl, _, _, rfl, rfl, z2, rfl, _, rfl, ite2 (fun e2 => ?_) (fun e2 => ?_)⟩
      · rw [dec_vint] at e2
        refine ⟨_, rfl, _, rfl, _, _, rfl, rfl, mulL (by omega) (by omega), _, rfl, _, _, rfl, rfl, by omega, ?_⟩
        refine ⟨_, rfl, _, rfl, _, _, rfl, rfl, mulL (by omega) (by omega), _, rfl, _, _, rfl, rfl, by omega, ?_⟩
        refine ⟨_, rfl, _, _, rfl, rfl, ⟨by decide, by decide⟩, ?_⟩
        refine ⟨m / 2, by omega, rfl, a' * a' % p, f' * a' % p, ?_, ?_, ?_, ?_⟩
        · simp
        · have := Nat.mod_lt (a' * a') (show p > 0 by omega); omega
        · exact Nat.mod_lt _ (by omega)
        · rw [pow_step1 (by omega), he]
      · rw [dec_vint] at e2
        refine ⟨_, rfl, _, rfl, _, _, rfl, rfl, mulL (by omega) (by omega), _, rfl, _, _, rfl, rfl, by omega, ?_⟩
        refine ⟨_, rfl, _, _, rfl, rfl, ⟨by decide, by decide⟩, ?_⟩
        refine ⟨m / 2, by omega, rfl, a' * a' % p, f', ?_, ?_, hf', ?_⟩
        · simp
        · have := Nat.mod_lt (a' * a') (show p > 0 by omega); omega
        · rw [pow_step0 (by omega), he]
    · have hm : m = 0 := by
        have := dF e
        omega
      subst hm
      rw [Nat.pow_zero, Nat.mul_one, Nat.mod_eq_of_lt hf'] at he
      subst he
      exact ⟨_, rfl, q⟩
end
end Lw
namespace Lw
open PySem PySem.Spec PyProof.Rows L2 AD
section
variable {P : Program} {w : World} {K : PySem.W.Frag} {mg : Str → Option Value} {base : Heap}
variable {fa : Nat → Addr} {fd : Nat → FuncData} {tk : Nat → Tok}
/-! ### is_whole, is_prime, asked_prime -/
/-- an int, or a thing of these kinds that is none -/
def spWhole (K : PySem.W.Frag) : Sp := fun vs H Q _ => ∃ v, vs = [v] ∧ ((∃ i, v = .int i ∧ Q (.bl true) H) ∨ ∃ n, TyX K H v (.type n) ∧ n ∈ ["NoneType", "str", "list", "tuple", "dict", "bool"] ∧ Q (.bl false) H)
theorem ok_is_whole (T : Txt K mg fa fd tk) : FnOk P w K mg base CX0 1 (fa 0) (fd 0) ["thing"] (spWhole K) := by
  refine T.F_is_whole.ok sc_is_whole (fun vs H Q E h => ?_) (fun cdv A outer s H vs Q E hr h => ?_)
  · obtain ⟨v, rfl, _⟩ := h
    rfl
  · obtain ⟨v, rfl, h⟩ := h
    refine ⟨_, (pss_one (ps_ret (pe_and (pe_callB call_isi (by rfl) T.m_isinstance (by decide +kernel) (pa_cons (pv 0) (pa_cons (pe_bltn (v := .ty "int") (u := .type "int") (by rfl) T.m_int (by decide +kernel) rfl) pa_nil))) (pe_one (pe_not (pe_callB call_isi (by rfl) T.m_isinstance (by decide +kernel) (pa_cons (pv 0) (pa_cons (pe_bltn (v := .ty "bool") (u := .type "bool") (by rfl) T.m_bool (by decide +kernel) rfl) pa_nil)))))))), ?_⟩
    rcases h with ⟨i, rfl, q⟩ | ⟨n, ty, hn, q⟩
    · refine ⟨_, rfl, _, _, _, _, true, rfl, .ty _, .base (.int _), kit_ty (by decide +kernel), true, rfl, iteT ?_⟩
      exact ⟨_, rfl, _, _, _, _, false, rfl, .ty _, .base (.int _), kit_ty (by decide +kernel), false, rfl, q⟩
    · simp only [List.mem_cons, List.not_mem_nil, or_false] at hn
      rcases hn with rfl | rfl | rfl | rfl | rfl | rfl
      · exact ⟨_, rfl, _, _, _, _, false, rfl, .ty _, ty, kit_ty (by decide +kernel), false, rfl, iteF q⟩
      · exact ⟨_, rfl, _, _, _, _, false, rfl, .ty _, ty, kit_ty (by decide +kernel), false, rfl, iteF q⟩
      · exact ⟨_, rfl, _, _, _, _, false, rfl, .ty _, ty, kit_ty (by decide +kernel), false, rfl, iteF q⟩
      · exact ⟨_, rfl, _, _, _, _, false, rfl, .ty _, ty, kit_ty (by decide +kernel), false, rfl, iteF q⟩
      · exact ⟨_, rfl, _, _, _, _, false, rfl, .ty _, ty, kit_ty (by decide +kernel), false, rfl, iteF q⟩
      · refine ⟨_, rfl, _, _, _, _, true, rfl, .ty _, ty, kit_ty (by decide +kernel), true, rfl, iteT ?_⟩
        exact ⟨_, rfl, _, _, _, _, true, rfl, .ty _, ty, kit_ty (by decide +kernel), true, rfl, q⟩
def spIsPrime : Sp := fun vs H Q _ => ∃ n : Nat, vs = [.int n] ∧ 2 ≤ n ∧ n ≤ 2000 ∧ Q (.bl (primeB n)) H
theorem ok_is_prime (T : Txt K mg fa fd tk) : FnOk P w K mg base CX0 1 (fa 1) (fd 1) ["number"] spIsPrime := by
  refine T.F_is_prime.ok sc_is_prime (fun vs H Q E h => ?_) (fun cdv A outer s H vs Q E hr h => ?_)
  · obtain ⟨v, rfl, _⟩ := h
    rfl
  · obtain ⟨n, rfl, hn, hn2, q⟩ := h
    refine ⟨_, (pss_cons (ps_set (i := 1) sc_is_prime.nd rfl (.inl rfl) pe_int)
      (pss_cons (ps_while PassesOwn.never (pt_cmpR op_le (pe_op op_mulB (pv 1) (pv 1)) (pv 0) (nomark _)) (pss_cons (ps_if (pt_cmpR op_eq (pe_op op_mod (pv 0) (pv 1)) pe_int (nomark _)) (pss_one (ps_ret pe_bl)) pss_nil)
      (pss_one (ps_set (i := 1) sc_is_prime.nd rfl (.inl rfl) (pe_op op_add (pv 1) pe_int)))))
      (pss_one (ps_ret pe_bl)))), ?_⟩
    refine ⟨fun m σ H' => H' = H ∧ ∃ a : Nat, σ = [some (.int n), some (.int a)] ∧ 2 ≤ a ∧ m + a = n + 2 ∧ primeLoop n m a = primeB n, ⟨n, rfl, 2, rfl, by omega, by omega, rfl⟩, fun m σ H' hW => ?_⟩
    obtain ⟨rfl, a, rfl, ha, hm, he⟩ := hW
    have hml : IntMulOk (a : Int) a := mulL (by omega) (by omega)
    refine ⟨_, rfl, _, rfl, _, _, rfl, rfl, hml, _, rfl, _, _, rfl, rfl, _, rfl, ite2 (fun e => ?_) (fun e => ?_)⟩
    · have e1 : a * a ≤ n := by have h := dT e; exact_mod_cast h
      have e2 : a ≤ n := Nat.le_trans (Nat.le_mul_of_pos_left a (by omega)) e1
      obtain ⟨k, rfl⟩ : ∃ k, m = k + 1 := ⟨m - 1, by omega⟩
      unfold primeLoop at he
      rw [Nat.ble_eq_true_of_le e1] at he
      refine ⟨fun σ' H'' => ∃ m', m' < k + 1 ∧ H'' = H' ∧ ∃ a : Nat, σ' = [some (.int n), some (.int a)] ∧ 2 ≤ a ∧ m' + a = n + 2 ∧ primeLoop n m' a = primeB n, fun _ _ h => h, ?_⟩
      refine ⟨_, rfl, _, rfl, _, _, rfl, rfl, by omega, rfl, _, rfl, ite2 (fun e3 => ?_) (fun e3 => ?_)⟩
      · rw [dec_vint] at e3
        have e4 : n % a = 0 := by omega
        rw [e4] at he
        rw [← he] at q
        exact q
      · rw [dec_vint] at e3
        have e4 : ¬ n % a = 0 := by omega
        have e5 : Nat.beq (n % a) 0 = false := by
          cases z : Nat.beq (n % a) 0 with
          | false => rfl
          | true => exact absurd (Nat.eq_of_beq_eq_true z) e4
        rw [e5] at he
        exact ⟨_, rfl, _, _, rfl, rfl, k, by omega, rfl, a + 1, rfl, by omega, by omega, he⟩
    · have e1 : ¬ a * a ≤ n := by have h := dF e; exact_mod_cast h
      have e5 : Nat.ble (a * a) n = false := by
        cases z : Nat.ble (a * a) n with
        | false => rfl
        | true => exact absurd (Nat.le_of_ble_eq_true z) e1
      have e6 : primeB n = true := by
        cases m with
        | zero => exact he.symm
        | succ k =>
          unfold primeLoop at he
          rw [e5] at he
          exact he.symm
      rw [e6] at q
      exact q
/-- a prime that is due: nothing is raised -/
def spAskedPrime : Sp := fun vs H Q _ => ∃ p m : Nat, vs = [.int p, .int m] ∧ Good p ∧ p ≤ m ∧ Q .non H
theorem ok_asked_prime (T : Txt K mg fa fd tk) : FnOk P w K mg base CX0 2 (fa 2) (fd 2) ["prime", "most"] spAskedPrime := by
  refine T.F_asked_prime.ok sc_asked_prime (fun vs H Q E h => ?_) (fun cdv A outer s H vs Q E hr h => ?_)
  · obtain ⟨p, m, rfl, _⟩ := h
    rfl
  · obtain ⟨p, m, rfl, G, hm, q⟩ := h
    have lo := G.lo
    have hi := G.hi
    refine ⟨_, (pss_one (ps_if (PW.pt (pw_or (pt_not (pt_val (pe_call (ok_is_whole T) (hr.mono (by decide)) (by rfl) T.g_is_whole T.F_is_whole.kp T.b_is_whole .nil pass0 (pa_cons (pv 0) pa_nil)))) (pw_or (pt_not (pt_chain op_le op_le pe_int (pv 0) (pv 1))) (pw_or1 (pt_not (pt_val (pe_call (ok_is_prime T) (hr.mono (by decide)) (by rfl) T.g_is_prime T.F_is_prime.kp T.b_is_prime .nil pass0 (pa_cons (pv 0) pa_nil)))))))) (pss_one ps_never) pss_nil)), ?_⟩
    refine ⟨_, rfl, _, rfl, .inl ⟨_, rfl, _, rfl, iteF ?_⟩⟩
    refine ⟨_, rfl, _, _, rfl, rfl, _, rfl, ?_⟩
    rw [decide_eq_true (show (3 : Int) ≤ p by omega)]
    refine iteT ⟨_, rfl, _, _, rfl, rfl, _, rfl, ?_⟩
    rw [decide_eq_true (show (p : Int) ≤ m by omega)]
    refine iteF ⟨_, rfl, p, rfl, by omega, by omega, _, rfl, ?_⟩
    rw [G.pr]
    exact iteF q
end
end Lw
namespace Lw
open PySem PySem.Spec PyProof.Rows L2 AD
section
variable {P : Program} {w : World} {K : PySem.W.Frag} {mg : Str → Option Value} {base : Heap}
variable {fa : Nat → Addr} {fd : Nat → FuncData} {tk : Nat → Tok}
/-! ### root_of, is_root, least_root -/
theorem beqF {a b : Nat} (h : ¬ a = b) : Nat.beq a b = false := by
  cases z : Nat.beq a b with
  | false => rfl
  | true => exact absurd (Nat.eq_of_beq_eq_true z) h
theorem bleF {a b : Nat} (h : ¬ a ≤ b) : Nat.ble a b = false := by
  cases z : Nat.ble a b with
  | false => rfl
  | true => exact absurd (Nat.le_of_ble_eq_true z) h
/-- what is stripped off leaves a divisor -/
theorem stripN_dvd (a : Nat) : ∀ (f left : Nat), stripN a f left ∣ left
  | 0, left => Nat.dvd_refl _
  | f + 1, left => by
    unfold stripN
    cases z : Nat.beq (left % a) 0 with
    | false => exact Nat.dvd_refl _
    | true =>
      have e : left % a = 0 := Nat.eq_of_beq_eq_true z
      exact Nat.dvd_trans (stripN_dvd a f (left / a)) (Nat.div_dvd_of_dvd (Nat.dvd_of_mod_eq_zero e))
theorem stripN_end {a f left : Nat} (h : ¬ left % a = 0) : stripN a f left = left := by
  cases f with
  | zero => rfl
  | succ f => unfold stripN; rw [beqF h]
theorem stripN_step {a f left : Nat} (h : left % a = 0) : stripN a (f + 1) left = stripN a f (left / a) := by
  rw [stripN, h]
def spRootOf : Sp := fun vs H Q _ => ∃ p g : Nat, vs = [.int p, .int g] ∧ 3 ≤ p ∧ p ≤ 2000 ∧ g < p ∧ Q (.bl (rootB p g)) H
theorem ok_root_of (T : Txt K mg fa fd tk) : FnOk P w K mg base CX0 2 (fa 4) (fd 4) ["prime", "number"] spRootOf := by
  refine T.F_root_of.ok sc_root_of (fun vs H Q E h => ?_) (fun cdv A outer s H vs Q E hr h => ?_)
  · obtain ⟨p, g, rfl, _⟩ := h
    rfl
  · obtain ⟨p, g, rfl, hp, hp2, hg, q⟩ := h
    refine ⟨_, (pss_cons (ps_set (i := 2) sc_root_of.nd rfl (.inl rfl) (pe_op op_sub (pv 0) pe_int))
      (pss_cons (ps_par (i := 3) (j := 4) (by rfl) sc_root_of.nd rfl rfl (by decide) rfl rfl (pa_cons (pv 2) (pa_cons pe_int pa_nil)) (by rfl))
      (pss_cons (ps_while PassesOwn.never (pt_cmpR op_gt (pv 3) pe_int (nomark _)) (pss_cons (ps_if (pt_cmpR op_eq (pe_op op_mod (pv 3) (pv 4)) pe_int (nomark _)) (pss_cons (ps_if (pt_cmpR op_eq (pe_call (ok_power T) (hr.mono (by decide)) (by rfl) T.g_power T.F_power.kp T.b_power .nil pass0 (pa_cons (pv 1) (pa_cons (pe_op op_fdiv (pv 2) (pv 4)) (pa_cons (pv 0) pa_nil)))) pe_int (nomark _)) (pss_one (ps_ret pe_bl)) pss_nil)
      (pss_one (ps_while PassesOwn.never (pt_cmpR op_eq (pe_op op_mod (pv 3) (pv 4)) pe_int (nomark _)) (pss_one (ps_set (i := 3) sc_root_of.nd rfl (.inl rfl) (pe_op op_fdiv (pv 3) (pv 4))))))) pss_nil)
      (pss_one (ps_set (i := 4) sc_root_of.nd rfl (.inl rfl) (pe_op op_add (pv 4) pe_int)))))
      (pss_one (ps_ret pe_bl))))), ?_⟩
    refine ⟨_, rfl, _, _, rfl, rfl, ?_⟩
    refine ⟨_, rfl, _, _, rfl, ?_⟩
    let W : Nat → L2.St → Hp → Prop := fun m σ H' => H' = H ∧ ∃ l a : Nat, σ = [some (.int p), some (.int g), some (.int ((p : Int) - 1)), some (.int l), some (.int a)] ∧ 1 ≤ l ∧ l ≤ p - 1 ∧ 2 ≤ a ∧ a ≤ p ∧ (∀ d, 2 ≤ d → d < a → ¬ l % d = 0) ∧ m + a = p + 2 ∧ rootLoop p g m l a = rootB p g
    refine ⟨W, ⟨p, rfl, p - 1, 2, ?_, by omega, by omega, by omega, by omega, fun d h1 h2 => by omega, by omega, rfl⟩, fun m σ H' hW => ?_⟩
    · have e : ((p - 1 : Nat) : Int) = (p : Int) - 1 := by omega
      rw [e]
      rfl
    obtain ⟨rfl, l, a, rfl, hl, hl2, ha, hap, hd, hm, he⟩ := hW
    refine ⟨_, rfl, _, _, rfl, rfl, _, rfl, ite2 (fun e => ?_) (fun e => ?_)⟩
    · have e1 : 1 < l := by have h := dT e; omega
      have hal : a ≤ l := by
        rcases Nat.lt_or_ge l a with z | z
        · exact absurd (Nat.mod_self l) (hd l (by omega) z)
        · exact z
      obtain ⟨k, rfl⟩ : ∃ k, m = k + 1 := ⟨m - 1, by omega⟩
      unfold rootLoop at he
      rw [bleF (show ¬ l ≤ 1 by omega)] at he
      refine ⟨fun σ' H'' => ∃ m', m' < k + 1 ∧ W m' σ' H'', fun _ _ h => h, ?_⟩
      refine ⟨_, rfl, _, rfl, _, _, rfl, rfl, by omega, rfl, _, rfl, ite2 (fun e3 => ?_) (fun e3 => ?_)⟩
      · rw [dec_vint] at e3
        have e4 : l % a = 0 := by omega
        rw [e4] at he
        refine ⟨_, rfl, _, rfl, _, rfl, _, _, rfl, rfl, ⟨by omega, by omega⟩, _, rfl, g, (p - 1) / a, p, ?_, by omega, by omega, by omega, rfl, _, rfl, ite2 (fun e5 => ?_) (fun e5 => ?_)⟩
        · have e : ((p : Int) - 1) / (a : Int) = (((p - 1) / a : Nat) : Int) := by
            rw [Int.natCast_ediv, show ((p - 1 : Nat) : Int) = (p : Int) - 1 by omega]
          show [V.int (g : Int), V.int (((p : Int) - 1) / (a : Int)), V.int (p : Int)] = _
          rw [e]
        · rw [dec_vint] at e5
          have e6 : g ^ ((p - 1) / a) % p = 1 := by omega
          rw [e6] at he
          rw [← he] at q
          exact q
        · rw [dec_vint] at e5
          have e6 : ¬ g ^ ((p - 1) / a) % p = 1 := by omega
          rw [beqF e6] at he
          -- while left % at == 0
          refine ⟨fun m2 σ' H'' => H'' = H' ∧ ∃ l2 : Nat, σ' = [some (.int p), some (.int g), some (.int ((p : Int) - 1)), some (.int l2), some (.int a)] ∧ 1 ≤ l2 ∧ l2 ∣ l ∧ l2 ≤ m2 ∧ stripN a m2 l2 = stripN a l l, ⟨l, rfl, l, rfl, hl, Nat.dvd_refl _, by omega, rfl⟩, fun m2 σ' H'' hW2 => ?_⟩
          obtain ⟨rfl, l2, rfl, h21, h22, h23, h24⟩ := hW2
          refine ⟨_, rfl, _, rfl, _, _, rfl, rfl, by omega, rfl, _, rfl, ite2 (fun e7 => ?_) (fun e7 => ?_)⟩
          · rw [dec_vint] at e7
            have e8 : l2 % a = 0 := by omega
            obtain ⟨k2, rfl⟩ : ∃ k2, m2 = k2 + 1 := ⟨m2 - 1, by omega⟩
            rw [stripN_step e8] at h24
            have hal2 : a ≤ l2 := Nat.le_of_dvd (by omega) (Nat.dvd_of_mod_eq_zero e8)
            have hdl : l2 / a < l2 := Nat.div_lt_self (by omega) (by omega)
            refine ⟨fun σ' H2 => ∃ m', m' < k2 + 1 ∧ H2 = H'' ∧ ∃ l2 : Nat, σ' = [some (.int p), some (.int g), some (.int ((p : Int) - 1)), some (.int l2), some (.int a)] ∧ 1 ≤ l2 ∧ l2 ∣ l ∧ l2 ≤ m' ∧ stripN a m' l2 = stripN a l l, fun _ _ h => h, ?_⟩
            refine ⟨_, rfl, _, rfl, _, _, rfl, rfl, ⟨by omega, by omega⟩, ?_⟩
            refine ⟨k2, by omega, rfl, l2 / a, rfl, ?_, Nat.dvd_trans (Nat.div_dvd_of_dvd (Nat.dvd_of_mod_eq_zero e8)) h22, by omega, h24⟩
            exact Nat.div_pos hal2 (by omega)
          · rw [dec_vint] at e7
            have e8 : ¬ l2 % a = 0 := by omega
            rw [stripN_end e8] at h24
            have hle : l2 ≤ l := Nat.le_of_dvd (by omega) h22
            refine ⟨_, rfl, _, _, rfl, rfl, k, by omega, rfl, l2, a + 1, rfl, h21, by omega, by omega, by omega, fun d d1 d2 z => ?_, by omega, ?_⟩
            · by_cases y : d = a
              · subst y
                exact e8 z
              · exact hd d d1 (by omega) (Nat.mod_eq_zero_of_dvd (Nat.dvd_trans (Nat.dvd_of_mod_eq_zero z) h22))
            · rw [h24]
              exact he
      · rw [dec_vint] at e3
        have e4 : ¬ l % a = 0 := by omega
        rw [beqF e4] at he
        refine ⟨_, rfl, _, _, rfl, rfl, k, by omega, rfl, l, a + 1, rfl, hl, hl2, by omega, by omega, fun d d1 d2 => ?_, by omega, he⟩
        by_cases y : d = a
        · subst y
          exact e4
        · exact hd d d1 (by omega)
    · have e1 : l ≤ 1 := by have h := dF e; omega
      have e6 : rootB p g = true := by
        cases m with
        | zero => exact he.symm
        | succ k =>
          unfold rootLoop at he
          rw [Nat.ble_eq_true_of_le e1] at he
          exact he.symm
      rw [e6] at q
      exact q
def spIsRoot : Sp := fun vs H Q _ => ∃ p g : Nat, vs = [.int p, .int g] ∧ Good p ∧ 1 ≤ g ∧ g < p ∧ Q (.bl (rootB p g)) H
theorem ok_is_root (T : Txt K mg fa fd tk) : FnOk P w K mg base CX0 3 (fa 5) (fd 5) ["prime", "number"] spIsRoot := by
  refine T.F_is_root.ok sc_is_root (fun vs H Q E h => ?_) (fun cdv A outer s H vs Q E hr h => ?_)
  · obtain ⟨p, g, rfl, _⟩ := h
    rfl
  · obtain ⟨p, g, rfl, G, hg, hg2, q⟩ := h
    have lo := G.lo
    have hi := G.hi
    refine ⟨_, (pss_cons (ps_expr (pe_call (ok_asked_prime T) (hr.mono (by decide)) (by rfl) T.g_asked_prime T.F_asked_prime.kp T.b_asked_prime .nil pass0 (pa_cons (pv 0) (pa_cons (pe_glob (v := .int 2000) rfl T.g_MOST ⟨_, rfl⟩) pa_nil))))
      (pss_cons (ps_if (PW.pt (pw_or (pt_not (pt_val (pe_call (ok_is_whole T) (hr.mono (by decide)) (by rfl) T.g_is_whole T.F_is_whole.kp T.b_is_whole .nil pass0 (pa_cons (pv 1) pa_nil)))) (pw_or1 (pt_not (pt_chain op_le op_lt pe_int (pv 1) (pv 0)))))) (pss_one ps_never) pss_nil)
      (pss_one (ps_ret (pe_call (ok_root_of T) (hr.mono (by decide)) (by rfl) T.g_root_of T.F_root_of.kp T.b_root_of .nil pass0 (pa_cons (pv 0) (pa_cons (pv 1) pa_nil))))))), ?_⟩
    refine ⟨_, rfl, p, 2000, rfl, G, hi, ?_⟩
    refine ⟨_, rfl, _, rfl, .inl ⟨_, rfl, _, rfl, iteF ?_⟩⟩
    refine ⟨_, rfl, _, _, rfl, rfl, _, rfl, ?_⟩
    rw [decide_eq_true (show (1 : Int) ≤ g by omega)]
    refine iteT ⟨_, rfl, _, _, rfl, rfl, _, rfl, ?_⟩
    rw [decide_eq_true (show (g : Int) < p by omega)]
    refine iteF ?_
    exact ⟨_, rfl, _, rfl, p, g, rfl, lo, hi, hg2, q⟩
def spLeast : Sp := fun vs H Q _ => ∃ p r : Nat, vs = [.int p] ∧ Good p ∧ 1 ≤ r ∧ r < p ∧ rootB p r = true ∧ (∀ g, 1 ≤ g → g < r → rootB p g = false) ∧ Q (.int r) H
theorem ok_least_root (T : Txt K mg fa fd tk) : FnOk P w K mg base CX0 3 (fa 6) (fd 6) ["prime"] spLeast := by
  refine T.F_least_root.ok sc_least_root (fun vs H Q E h => ?_) (fun cdv A outer s H vs Q E hr h => ?_)
  · obtain ⟨p, r, rfl, _⟩ := h
    rfl
  · obtain ⟨p, r, rfl, G, hr1, hr2, hrt, hno, q⟩ := h
    have lo := G.lo
    have hi := G.hi
    refine ⟨_, (pss_cons (ps_expr (pe_call (ok_asked_prime T) (hr.mono (by decide)) (by rfl) T.g_asked_prime T.F_asked_prime.kp T.b_asked_prime .nil pass0 (pa_cons (pv 0) (pa_cons (pe_glob (v := .int 2000) rfl T.g_MOST ⟨_, rfl⟩) pa_nil))))
      (pss_cons (ps_set (i := 1) sc_least_root.nd rfl (.inl rfl) pe_int)
      (pss_cons (ps_while PassesOwn.never (pt_not (pt_val (pe_call (ok_root_of T) (hr.mono (by decide)) (by rfl) T.g_root_of T.F_root_of.kp T.b_root_of .nil pass0 (pa_cons (pv 0) (pa_cons (pv 1) pa_nil))))) (pss_one (ps_set (i := 1) sc_least_root.nd rfl (.inl rfl) (pe_op op_add (pv 1) pe_int))))
      (pss_one (ps_ret (pv 1)))))), ?_⟩
    refine ⟨_, rfl, p, 2000, rfl, G, hi, ?_⟩
    refine ⟨fun m σ H' => H' = H ∧ ∃ a : Nat, σ = [some (.int p), some (.int a)] ∧ 1 ≤ a ∧ a ≤ r ∧ m + a = r, ⟨r - 1, rfl, 1, rfl, by omega, by omega, by omega⟩, fun m σ H' hW => ?_⟩
    obtain ⟨rfl, a, rfl, ha, har, hm⟩ := hW
    refine ⟨_, rfl, _, rfl, p, a, rfl, lo, hi, by omega, _, rfl, ?_⟩
    by_cases z : a = r
    · subst z
      rw [hrt]
      exact iteF ⟨_, rfl, q⟩
    · rw [hno a ha (by omega)]
      refine iteT ⟨fun σ' H'' => ∃ m', m' < m ∧ H'' = H' ∧ ∃ a : Nat, σ' = [some (.int p), some (.int a)] ∧ 1 ≤ a ∧ a ≤ r ∧ m' + a = r, fun _ _ h => h, ?_⟩
      exact ⟨_, rfl, _, _, rfl, rfl, m - 1, by omega, rfl, a + 1, rfl, by omega, by omega, by omega⟩
end
end Lw
namespace Lw
open PySem PySem.Spec PyProof.Rows L2 AD
section
variable {P : Program} {w : World} {K : PySem.W.Frag} {mg : Str → Option Value} {base : Heap}
variable {fa : Nat → Addr} {fd : Nat → FuncData} {tk : Nat → Tok}
/-! ### the law's own defs -/
theorem bits_pow {z : Int} {k : Nat} (h : Builtin.Int.intBits z ≤ k) : z.natAbs < 2 ^ k := by
  unfold Builtin.Int.intBits at h
  split at h
  · rename_i e
    have e' : z = 0 := by simpa using e
    subst e'
    exact Nat.two_pow_pos k
  · exact Nat.lt_of_lt_of_le (Nat.lt_log2_self) (Nat.pow_le_pow_right (by decide) h)
theorem pow_bits {z : Int} {k : Nat} (h : z.natAbs < 2 ^ k) : Builtin.Int.intBits z ≤ k := by
  unfold Builtin.Int.intBits
  split
  · exact Nat.zero_le _
  · rename_i e
    have h0 : z.natAbs ≠ 0 := fun y => e (by simpa using y)
    exact (Nat.log2_lt h0).mpr h
theorem mulBig {i j : Int} {a b : Nat} (hi : i.natAbs < 2 ^ a) (hj : j.natAbs < 2 ^ b) (h : a + b ≤ 100000000) : IntMulOk i j := by
  have h1 := pow_bits hi
  have h2 := pow_bits hj
  have e : bitsLine = 134217728 := by decide
  unfold IntMulOk
  intro y
  rw [Bool.and_eq_true] at y
  have y2 := y.2
  unfold Builtin.Int.intTooBig at y2
  have y3 := of_decide_eq_true y2
  rw [e] at y3
  omega
theorem add_pow {i j : Int} {k : Nat} (hi : i.natAbs < 2 ^ k) (hj : j.natAbs < 2 ^ k) : (i + j).natAbs < 2 ^ (k + 1) := by
  have h := Int.natAbs_add_le i j
  rw [Nat.pow_succ]
  omega
theorem up_pow {i : Int} {k m : Nat} (hi : i.natAbs < 2 ^ k) (h : k ≤ m) : i.natAbs < 2 ^ m := Nat.lt_of_lt_of_le hi (Nat.pow_le_pow_right (by decide) h)
theorem mul_pow2 {i j : Int} {a b : Nat} (ha : i.natAbs < 2 ^ a) (hb : j.natAbs < 2 ^ b) : (i * j).natAbs < 2 ^ (a + b) := by
  rw [Int.natAbs_mul, Nat.pow_add]
  exact Nat.mul_lt_mul'' ha hb
/-- a number comes, which one is not told -/
def spNumber : Sp := fun vs H Q _ => ∃ (c a w : Int) (k : Nat), vs = [.int c, .int a, .int w] ∧ 0 ≤ a ∧ a ≤ 100000 ∧ c.natAbs < 2 ^ k ∧ 64 ≤ k ∧ k ≤ 2000000 ∧ ∀ n : Int, Q (.int n) H
theorem ok__law_number (T : Txt K mg fa fd tk) : FnOk P w K mg base CX0 1 (fa 7) (fd 7) ["_law_cell", "_law_at", "_law_whole"] spNumber := by
  refine T.F__law_number.ok sc__law_number (fun vs H Q E h => ?_) (fun cdv A outer s H vs Q E hr h => ?_)
  · obtain ⟨c, a, w', k, rfl, _⟩ := h
    rfl
  · obtain ⟨c, a, w', k, rfl, ha, ha2, hc, hk, hk2, q⟩ := h
    refine ⟨_, (pss_cons (ps_if (pt_cmpR op_ge (pv 0) (pe_op op_pow pe_int pe_int) (nomark _)) (pss_one (ps_ret (pe_op op_fdiv (pv 0) (pe_op op_add pe_int (pe_op op_mod (pv 1) pe_int))))) pss_nil)
      (pss_cons (ps_set (i := 3) sc__law_number.nd rfl (.inl rfl) (pe_op op_mod (pe_op op_add (pe_op op_mulB (pe_op op_add (pv 0) (pe_op op_mulB pe_int (pv 1))) pe_int) (pv 2)) pe_int))
      (pss_cons (ps_set (i := 4) sc__law_number.nd rfl (.inl rfl) (pe_op op_mulB (pv 3) (pe_op op_add (pe_op op_add (pv 0) (pe_op op_mulB pe_int (pv 1))) pe_int)))
      (pss_one (ps_ret (pe_op op_fdiv (pe_op op_mulB (pe_op op_mulB (pv 4) (pe_op op_add (pe_op op_add (pv 3) (pv 0)) pe_int)) (pe_op op_add (pe_op op_mulB (pv 3) (pv 3)) pe_int)) (pe_op op_add pe_int (pv 1)))))))), ?_⟩
    refine ⟨_, rfl, _, _, rfl, rfl, ⟨by decide, by decide, by decide⟩, _, _, rfl, rfl, _, rfl, ite2 (fun e => ?_) (fun e => ?_)⟩
    · refine ⟨_, rfl, _, rfl, _, _, rfl, rfl, (show (0 : Int) < 7 by decide), _, _, rfl, rfl, _, _, rfl, rfl, ?_, q _⟩
      show 0 < 1 + a % 7 ∧ 1 + a % 7 < 1073741824
      omega
    · have e1 : IntMulOk 977 a := mulL (by decide) (by decide)
      refine ⟨_, rfl, _, rfl, _, _, rfl, rfl, e1, _, _, rfl, rfl, _, _, rfl, rfl, mulR (by decide) (by decide), _, rfl, _, _, rfl, rfl, _, _, rfl, rfl, (show (0 : Int) < 2147483647 by decide), ?_⟩
      -- more
      have p32 : (2 : Nat) ^ 32 = 4294967296 := by decide
      have p64 : (2 : Nat) ^ 64 ≤ 2 ^ k := Nat.pow_le_pow_right (by decide) hk
      have p64' : (2 : Nat) ^ 64 = 18446744073709551616 := by decide
      have b1 : (c + 31 * a + 7).natAbs < 2 ^ (k + 1 + 1) := by
        refine add_pow (add_pow hc ?_) ?_
        · omega
        · rw [Nat.pow_succ]; omega
      have key : ∀ mx : Int, 0 ≤ mx → mx < 2147483647 → IntMulOk mx (c + 31 * a + 7) ∧ IntMulOk (mx * (c + 31 * a + 7)) (mx + c + 5) ∧ IntMulOk mx mx ∧ ∀ i, IntMulOk i (mx * mx + 11) := by
        intro mx m0 m1
        have b2 : mx.natAbs < 2 ^ 32 := by omega
        have b3 : (mx * (c + 31 * a + 7)).natAbs < 2 ^ (32 + (k + 1 + 1)) := mul_pow2 b2 b1
        have b4 : (mx + c + 5).natAbs < 2 ^ (k + 1 + 1) := by
          refine add_pow (add_pow ?_ hc) ?_
          · omega
          · rw [Nat.pow_succ]; omega
        have m2 : mx * mx ≤ 2147483647 * mx := Int.mul_le_mul_of_nonneg_right (Int.le_of_lt m1) m0
        have m3 : 0 ≤ mx * mx := Int.mul_nonneg m0 m0
        exact ⟨mulL (by omega) (by omega), mulBig b3 b4 (by omega), mulL (by omega) (by omega), fun i => mulR (by omega) (by omega)⟩
      obtain ⟨k1, k2, k3, k4⟩ := key (((c + 977 * a) * 48271 + w') % 2147483647) (Int.emod_nonneg _ (by decide)) (Int.emod_lt_of_pos _ (by decide))
      refine ⟨_, rfl, _, rfl, _, rfl, _, _, rfl, rfl, mulL (by decide) (by decide), _, _, rfl, rfl, _, _, rfl, rfl, _, _, rfl, rfl, k1, ?_⟩
      refine ⟨_, rfl, _, rfl, _, rfl, _, _, rfl, rfl, _, _, rfl, rfl, _, _, rfl, rfl, k2, ?_⟩
      refine ⟨_, rfl, _, rfl, _, _, rfl, rfl, k3, _, _, rfl, rfl, _, _, rfl, rfl, k4 _, _, rfl, _, _, rfl, rfl, _, _, rfl, rfl, ?_, q _⟩
      show 0 < 1009 + a ∧ 1009 + a < 1073741824
      omega
end
end Lw
namespace Lw
open PySem PySem.Spec PyProof.Rows L2 AD
section
variable {P : Program} {w : World} {K : PySem.W.Frag} {mg : Str → Option Value} {base : Heap}
variable {fa : Nat → Addr} {fd : Nat → FuncData} {tk : Nat → Tok}
/-! ### the law's primes, powers, roots -/
theorem ix_ints {l : List Nat} {z : Int} {n : Nat} (hn : l.length = n) (h0 : 0 ≤ z) (h1 : z < n) : ∃ p ∈ l, atI (l.map fun i : Nat => V.int i) z = some (.int (p : Nat)) := by
  have h2 : z.toNat < l.length := by omega
  refine ⟨l[z.toNat], List.getElem_mem h2, at_of (j := z.toNat) (by omega) ?_⟩
  rw [List.getElem?_map, List.getElem?_eq_getElem h2]
  rfl
def spPrime : Sp := fun vs H Q _ => ∃ n : Int, vs = [.int n] ∧ ∀ (p : Nat) (H' : Hp), p ∈ PS0 ++ PG0 → Same H H' → Q (.int p) H'
theorem ok__law_prime (T : Txt K mg fa fd tk) : FnOk P w K mg base CX0 1 (fa 8) (fd 8) ["_law_number_here"] spPrime := by
  refine T.F__law_prime.ok sc__law_prime (fun vs H Q E h => ?_) (fun cdv A outer s H vs Q E hr h => ?_)
  · obtain ⟨n, rfl, _⟩ := h
    rfl
  · obtain ⟨n, rfl, q⟩ := h
    refine ⟨_, (pss_cons (ps_set (i := 1) sc__law_prime.nd rfl (.inl rfl) (pe_tup (pa_cons pe_int (pa_cons pe_int (pa_cons pe_int (pa_cons pe_int (pa_cons pe_int (pa_cons pe_int (pa_cons pe_int (pa_cons pe_int (pa_cons pe_int (pa_cons pe_int (pa_cons pe_int (pa_cons pe_int (pa_cons pe_int (pa_cons pe_int (pa_cons pe_int (pa_cons pe_int (pa_cons pe_int pa_nil)))))))))))))))))))
      (pss_cons (ps_if (pt_cmpR op_eq (pe_op op_mod (pv 0) pe_int) pe_int (nomark _)) (pss_one (ps_ret (pe_ix ix_tup (pe_tup (pa_cons pe_int (pa_cons pe_int (pa_cons pe_int (pa_cons pe_int (pa_cons pe_int pa_nil)))))) (pe_op op_mod (pe_op op_fdiv (pv 0) pe_int) pe_int) (fun _ _ => rfl)))) pss_nil)
      (pss_one (ps_ret (pe_ix ix_tup (pv 1) (pe_op op_mod (pe_op op_fdiv (pv 0) pe_int) pe_int) (fun _ _ => rfl)))))), ?_⟩
    refine ⟨by show 17 ≤ sizeLine; decide, fun t ht => ?_⟩
    have s1 : Same H (upd H t (.tup (PS0.map fun i : Nat => V.int i))) := same_upd ht
    refine ⟨_, rfl, _, _, rfl, rfl, (show (0 : Int) < 8 by decide), rfl, _, rfl, ite2 (fun e => ?_) (fun e => ?_)⟩
    · refine ⟨by show 5 ≤ sizeLine; decide, fun u hu => ?_⟩
      obtain ⟨p, hp, hx⟩ := ix_ints (l := PG0) (z := n / 8 % 5) (n := 5) rfl (Int.emod_nonneg _ (by decide)) (Int.emod_lt_of_pos _ (by decide))
      refine ⟨_, rfl, _, _, rfl, rfl, ⟨by decide, by decide⟩, _, _, rfl, rfl, (show (0 : Int) < 5 by decide), u, _, _, _, rfl, rfl, SqT.of upd_same, hx, q p _ (List.mem_append_right _ hp) (s1.trans (same_upd hu))⟩
    · obtain ⟨p, hp, hx⟩ := ix_ints (l := PS0) (z := n / 8 % 17) (n := 17) rfl (Int.emod_nonneg _ (by decide)) (Int.emod_lt_of_pos _ (by decide))
      refine ⟨_, rfl, _, rfl, _, _, rfl, rfl, ⟨by decide, by decide⟩, _, _, rfl, rfl, (show (0 : Int) < 17 by decide), t, _, _, _, rfl, rfl, SqT.of upd_same, hx, q p _ (List.mem_append_left _ hp) s1⟩
/-- the powers from the first one on -/
def powL (p g n : Nat) : List V := (List.range n).map fun i => V.int ((g ^ (i + 1) % p : Nat) : Int)
theorem powL_len (p g n : Nat) : (powL p g n).length = n := by unfold powL; rw [List.length_map, List.length_range]
theorem powL_succ (p g n : Nat) : powL p g (n + 1) = powL p g n ++ [V.int ((g ^ (n + 1) % p : Nat) : Int)] := by
  unfold powL
  rw [List.range_succ, List.map_append]
  rfl
theorem powL_last (p g n : Nat) : atI (powL p g (n + 1)) (-1) = some (V.int ((g ^ (n + 1) % p : Nat) : Int)) := by
  rw [powL_succ]
  exact atI_last _ _
def spPowers : Sp := fun vs H Q _ => ∃ p g : Nat, vs = [.int p, .int g] ∧ 3 ≤ p ∧ p ≤ 2000 ∧ g < p ∧ ∀ (H' : Hp) (a : Addr), Same H H' → H a = none → H' a = some (.lst (powL p g (plen p g))) → Q (.ref a) H'
theorem ok__law_powers (T : Txt K mg fa fd tk) : FnOk P w K mg base CX0 1 (fa 9) (fd 9) ["_law_prime_here", "_law_number_here"] spPowers := by
  refine T.F__law_powers.ok sc__law_powers (fun vs H Q E h => ?_) (fun cdv A outer s H vs Q E hr h => ?_)
  · obtain ⟨p, g, rfl, _⟩ := h
    rfl
  · obtain ⟨p, g, rfl, hp, hp2, hg, q⟩ := h
    refine ⟨_, (pss_cons (ps_set (i := 2) sc__law_powers.nd rfl (.inl rfl) (pe_lst (pa_cons (pe_op op_mod (pv 1) (pv 0)) pa_nil)))
      (pss_cons (ps_while PassesOwn.never (PW.pt (pw_and (pt_cmpR op_ne (pe_ix ix_list (pv 2) (pe_un un_neg pe_int) (fun _ _ => rfl)) pe_int (nomark _)) (pw_and1 (pt_cmpR op_lt (pe_callB call_len_seq (by rfl) T.m_len (by decide +kernel) (pa_cons (pv 2) pa_nil)) (pv 0) (nomark _))))) (pss_one (ps_expr (pe_bm PySem.F.plainAttrs_list PySem.F.slot_list_append PySem.F.type_list_append mt_append (pv 2) (pa_cons (pe_op op_mod (pe_op op_mulB (pe_ix ix_list (pv 2) (pe_un un_neg pe_int) (fun _ _ => rfl)) (pv 1)) (pv 0)) pa_nil)))))
      (pss_one (ps_ret (pv 2))))), ?_⟩
    refine ⟨_, rfl, _, rfl, _, _, rfl, rfl, (show (0 : Int) < p by omega), by show 1 ≤ sizeLine; decide, fun a ha => ?_⟩
    let W : Nat → L2.St → Hp → Prop := fun m σ H' => σ = [some (.int p), some (.int g), some (.ref a)] ∧ ∃ n, Same H H' ∧ H' a = some (.lst (powL p g (n + 1))) ∧ m + (n + 1) = p ∧ ∀ k, 1 ≤ k → k < n + 1 → g ^ k % p ≠ 1
    refine ⟨W, ⟨p - 1, rfl, 0, same_upd ha, ?_, by omega, fun k k1 k2 => by omega⟩, fun m σ H' hW => ?_⟩
    · rw [upd_same, powL_succ]
      show some (HO.lst [V.int ((g : Int) % (p : Int))]) = some (HO.lst ([] ++ [V.int ((g ^ 1 % p : Nat) : Int)]))
      rw [Nat.pow_one]
      rfl
    obtain ⟨rfl, n, sm, hl, hm, hno⟩ := hW
    have hq : SqL K H' a (powL p g (n + 1)) := .of hl
    refine ⟨_, rfl, 1, rfl, a, _, _, _, rfl, rfl, hq, powL_last p g n, rfl, _, rfl, ite2 (fun e => ?_) (fun e => ?_)⟩
    · have e1 : ¬ g ^ (n + 1) % p = 1 := fun z => by
        rw [z] at e
        cases e
      refine ⟨_, rfl, a, _, rfl, .inl hq, _, rfl, _, _, rfl, rfl, _, rfl, ite2 (fun e2 => ?_) (fun e2 => ?_)⟩
      · have e3 : n + 1 < p := by
          have h := dT e2
          rw [powL_len] at h
          omega
        have hlt := Nat.mod_lt (g ^ (n + 1)) (show p > 0 by omega)
        refine ⟨fun σ' H'' => ∃ m', m' < m ∧ W m' σ' H'', fun _ _ h => h, ?_⟩
        refine ⟨_, rfl, .inl ⟨rfl, _, hq⟩, _, rfl, 1, rfl, a, _, _, _, rfl, rfl, hq, powL_last p g n, _, rfl, _, _, rfl, rfl, mulL (by omega) (by omega), _, rfl, _, _, rfl, rfl, (show (0 : Int) < p by omega), a, _, _, rfl, rfl, hl, ?_, ?_⟩
        · rw [powL_len]
          exact Nat.lt_of_lt_of_le (show n + 1 < 2000 by omega) (by decide)
        · refine ⟨m - 1, by omega, rfl, n + 1, fun b o h => ?_, ?_, by omega, fun k k1 k2 => ?_⟩
          · rw [upd_ne (ne_of_none h ha)]
            exact sm b o h
          · rw [upd_same, powL_succ p g (n + 1)]
            have e9 : g ^ (n + 1 + 1) % p = (g ^ (n + 1) % p * g) % p := by rw [Nat.pow_succ g (n + 1), Nat.mod_mul_mod]
            rw [e9]
            rfl
          · by_cases z : k = n + 1
            · rw [z]; exact e1
            · exact hno k k1 (by omega)
      · have e3 : n + 1 = p := by
          have h := dF e2
          rw [powL_len] at h
          omega
        have z : plen p g = n + 1 := plen_unique (by omega) (by omega) (by omega) hno (.inr e3)
        rw [← z] at hl
        exact ⟨_, rfl, q H' a sm ha hl⟩
    · have e1 : g ^ (n + 1) % p = 1 := by
        by_cases z : g ^ (n + 1) % p = 1
        · exact z
        · refine absurd ?_ e
          rw [Bool.not_eq_true', decide_eq_false_iff_not]
          intro y
          have := V.int.inj y
          omega
      have z : plen p g = n + 1 := plen_unique (by omega) (by omega) (by omega) hno (.inl e1)
      rw [← z] at hl
      exact iteF ⟨_, rfl, q H' a sm ha hl⟩
/-- a root comes; of 0 the least one -/
def spRoot : Sp := fun vs H Q _ => ∃ (p r0 : Nat) (n : Int), vs = [.int p, .int n] ∧ Root p r0 ∧ ∀ (r : Nat) (H' : Hp), Root p r → (n = 0 → ∀ g, 1 ≤ g → g < r → plen p g ≠ p - 1) → Same H H' → Q (.int r) H'
theorem ok__law_root (T : Txt K mg fa fd tk) : FnOk P w K mg base CX0 2 (fa 10) (fd 10) ["_law_prime_here", "_law_number_here"] spRoot := by
  refine T.F__law_root.ok sc__law_root (fun vs H Q E h => ?_) (fun cdv A outer s H vs Q E hr h => ?_)
  · obtain ⟨p, r0, n, rfl, _⟩ := h
    rfl
  · obtain ⟨p, r0, n, rfl, R, q⟩ := h
    have lo := R.good.lo
    have hi := R.good.hi
    have r1 := R.one
    have r2 := R.lt
    refine ⟨_, (pss_cons (ps_set (i := 2) sc__law_root.nd rfl (.inl rfl) (pe_op op_add pe_int (pe_op op_mod (pv 1) (pe_op op_sub (pv 0) pe_int))))
      (pss_cons (ps_while PassesOwn.never (pt_cmpR op_lt (pe_callB call_len_seq (by rfl) T.m_len (by decide +kernel) (pa_cons (pe_call (ok__law_powers T) (hr.mono (by decide)) (by rfl) T.g__law_powers T.F__law_powers.kp T.b__law_powers .nil pass0 (pa_cons (pv 0) (pa_cons (pv 2) pa_nil))) pa_nil)) (pe_op op_sub (pv 0) pe_int) (nomark _)) (pss_one (ps_set (i := 2) sc__law_root.nd rfl (.inl rfl) (pe_op op_add pe_int (pe_op op_mod (pv 2) (pe_op op_sub (pv 0) pe_int))))))
      (pss_one (ps_ret (pv 2))))), ?_⟩
    refine ⟨_, rfl, _, rfl, _, _, rfl, rfl, _, _, rfl, rfl, (show (0 : Int) < (p : Int) - 1 by omega), _, _, rfl, rfl, ?_⟩
    let W : Nat → L2.St → Hp → Prop := fun m σ H' => Same H H' ∧ ∃ a : Nat, σ = [some (.int p), some (.int n), some (.int a)] ∧ 1 ≤ a ∧ a < p ∧ m = (if a ≤ r0 then r0 - a else r0 + (p - 1) - a) ∧ (n = 0 → ∀ g, 1 ≤ g → g < a → plen p g ≠ p - 1)
    have n0 := Int.emod_nonneg n (show (p : Int) - 1 ≠ 0 by omega)
    have n1 := Int.emod_lt_of_pos n (show (0 : Int) < (p : Int) - 1 by omega)
    refine ⟨W, ⟨_, Same.refl H, (1 + n % ((p : Int) - 1)).toNat, ?_, by omega, by omega, rfl, fun z g g1 g2 => ?_⟩, fun m σ H' hW => ?_⟩
    · rw [Int.toNat_of_nonneg (by omega)]
      rfl
    · subst z
      rw [Int.zero_emod] at g2
      omega
    obtain ⟨sm, a, rfl, a1, a2, hm, hno⟩ := hW
    refine ⟨_, rfl, _, rfl, p, a, rfl, lo, hi, a2, fun H2 l s2 nl hl => ?_⟩
    refine ⟨l, _, rfl, .inl (.of hl), _, rfl, _, _, rfl, rfl, _, _, rfl, rfl, _, rfl, ite2 (fun e => ?_) (fun e => ?_)⟩
    · have e1 : plen p a ≠ p - 1 := by
        have h := dT e
        rw [powL_len] at h
        omega
      have ne : a ≠ r0 := fun z => by
        rw [z] at e1
        exact e1 R.len
      refine ⟨fun σ' H'' => ∃ m', m' < m ∧ W m' σ' H'', fun _ _ h => h, ?_⟩
      refine ⟨_, rfl, _, rfl, _, _, rfl, rfl, _, _, rfl, rfl, (show (0 : Int) < (p : Int) - 1 by omega), _, _, rfl, rfl, ?_⟩
      by_cases z : a = p - 1
      · subst z
        refine ⟨_, ?_, sm.trans s2, 1, ?_, by omega, by omega, rfl, fun _ g g1 g2 => by omega⟩
        · rw [hm, if_pos (show 1 ≤ r0 from r1), if_neg (by omega)]
          omega
        · have e2 : ((p - 1 : Nat) : Int) % ((p : Int) - 1) = 0 := by
            rw [show ((p - 1 : Nat) : Int) = (p : Int) - 1 by omega, Int.emod_self]
          show [some (V.int (p : Int)), some (V.int n), some (V.int (1 + ((p - 1 : Nat) : Int) % ((p : Int) - 1)))] = _
          rw [e2]
          rfl
      · refine ⟨_, ?_, sm.trans s2, a + 1, ?_, by omega, by omega, rfl, fun hz g g1 g2 => ?_⟩
        · rw [hm]
          split <;> split <;> omega
        · have e2 : (a : Int) % ((p : Int) - 1) = a := Int.emod_eq_of_lt (by omega) (by omega)
          show [some (V.int (p : Int)), some (V.int n), some (V.int (1 + (a : Int) % ((p : Int) - 1)))] = _
          rw [e2, Int.add_comm]
          rfl
        · by_cases y : g = a
          · rw [y]; exact e1
          · exact hno hz g g1 (by omega)
    · have e1 : plen p a = p - 1 := by
        have h := dF e
        rw [powL_len] at h
        have := R.good.plen_le a1 a2
        omega
      exact ⟨_, rfl, q a H2 ⟨R.good, a1, a2, e1⟩ hno (sm.trans s2)⟩
end
end Lw
namespace Lw
open PySem PySem.Spec PyProof.Rows L2 AD
section
variable {P : Program} {w : World} {K : PySem.W.Frag} {mg : Str → Option Value} {base : Heap}
variable {fa : Nat → Addr} {fd : Nat → FuncData} {tk : Nat → Tok}
/-! ### the law -/
theorem dp_ints {K : PySem.W.Frag} {H : Hp} : ∀ ns : List Int, DpAll K H (ns.map V.int) (ns.map PyData.int)
  | [] => .nil
  | n :: r => .cons (.int n) (dp_ints r)
theorem dp_list {K : PySem.W.Frag} {H : Hp} {a : Addr} {ns : List Int} (h : SqL K H a (ns.map V.int)) : Dp K H (.ref a) (.list (ns.map PyData.int)) := .lst h (dp_ints ns)
/-- script[:8] + [4]: up to nine ints, each of a size that can be told -/
def spLaw (K : PySem.W.Frag) : Sp := fun vs H Q _ => ∃ (a : Addr) (ns : List Int), vs = [.ref a] ∧ SqL K H a (ns.map V.int) ∧ ns.length ≤ 63 ∧ (∀ z ∈ ns, Builtin.Int.intBits z ≤ 1048576) ∧ ∀ H', Q (.bl true) H'
theorem cutV_mem {xs : List V} {lo hi : Option Int} {v : V} (h : v ∈ cutV xs lo hi) : v ∈ xs := by
  unfold cutV at h
  exact List.mem_of_mem_drop (List.mem_of_mem_take h)
theorem pow64 : (4 : Int).natAbs < 2 ^ 1048576 := by
  have h : (2 : Nat) ^ 3 ≤ 2 ^ 1048576 := Nat.pow_le_pow_right (by decide) (by decide)
  exact Nat.lt_of_lt_of_le (by decide) h
def PL0 : List Nat := [3, 5, 7, 23, 41, 71]
theorem prmL (p : Nat) (h : p ∈ PL0) : Prm p := by
  simp only [PL0, List.mem_cons, List.not_mem_nil, or_false] at h
  rcases h with rfl | rfl | rfl | rfl | rfl | rfl
  · exact prm_in (by decide)
  · exact prm_in (by decide)
  · exact prm_in (by decide)
  · exact prm_in (by decide)
  · exact prm_in (by decide)
  · exact prm71
theorem ok_law (T : Txt K mg fa fd tk) : FnOk P w K mg base CX0 4 (fa 13) (fd 13) ["_law_script"] (spLaw K) := by
  refine T.F_law.ok sc_law (fun vs H Q E h => ?_) (fun cdv A outer s H vs Q E hr h => ?_)
  · obtain ⟨a, ns, rfl, _⟩ := h
    rfl
  · obtain ⟨a, ns, rfl, hS, hlen, hbits, q⟩ := h
    have hu := hr.units
    refine ⟨_, (pss_cons (ps_for PassesOwn.never rfl (pi_enum (by rfl) T.m_enumerate (pa_cons (pe_op op_cat (pe_slice sl_list (pv 0) po_none (po_some pe_int)) (pe_lst (pa_cons pe_int pa_nil))) pa_nil)) (pg_tup rfl (pgs_cons (pg_name (i := 1) sc_law.nd rfl (.inl rfl)) (pgs_cons (pg_name (i := 2) sc_law.nd rfl (.inl rfl)) pgs_nil))) (pss_cons (ps_set (i := 3) sc_law.nd rfl (.inl rfl) (pe_call (ok__law_number T) (hr.mono (by decide)) (by rfl) T.g__law_number T.F__law_number.kp T.b__law_number .nil pass0 (pa_cons (pv 2) (pa_cons (pv 1) (pa_cons (pe_callB call_len_seq (by rfl) T.m_len (by decide +kernel) (pa_cons (pv 0) pa_nil)) pa_nil)))))
      (pss_cons (ps_set (i := 4) sc_law.nd rfl (.inl rfl) (pe_call (ok__law_prime T) (hr.mono (by decide)) (by rfl) T.g__law_prime T.F__law_prime.kp T.b__law_prime .nil pass0 (pa_cons (pv 3) pa_nil)))
      (pss_cons (ps_set (i := 5) sc_law.nd rfl (.inl rfl) (pe_lst (pa_cons pe_int (pa_cons pe_int (pa_cons (pe_op op_sub (pv 4) pe_int) (pa_cons (pe_op op_add pe_int (pe_op op_mod (pe_op op_fdiv (pv 3) pe_int) (pe_op op_sub (pv 4) pe_int))) pa_nil))))))
      (pss_cons (ps_for PassesOwn.never rfl (pi_list (pe_op op_cat (pv 5) (pe_listRg rfl (by rfl) T.m_list (prg_2 (by rfl) T.m_range pe_int (pe_callB (call_min2 rfl) (by rfl) T.m_min (by decide +kernel) (pa_cons (pv 4) (pa_cons pe_int pa_nil))))))) (pg_name (i := 6) sc_law.nd rfl (.inl rfl)) (pss_one (ps_if (pt_cmpR op_lt (pv 6) (pv 4) (nomark _)) (pss_cons (ps_set (i := 7) sc_law.nd rfl (.inl rfl) (pe_call (ok_is_root T) (hr.mono (by decide)) (by rfl) T.g_is_root T.F_is_root.kp T.b_is_root .nil pass0 (pa_cons (pv 4) (pa_cons (pv 6) pa_nil))))
      (pss_one (ps_if (PW.pt (pw_or (pt_not (pt_val (pe_callB call_isi (by rfl) T.m_isinstance (by decide +kernel) (pa_cons (pv 7) (pa_cons (pe_bltn (v := .ty "bool") (u := .type "bool") (by rfl) T.m_bool (by decide +kernel) rfl) pa_nil))))) (pw_or1 (pt_cmpR op_ne (pv 7) (pe_cmpR op_eq (pe_callB call_len_seq (by rfl) T.m_len (by decide +kernel) (pa_cons (pe_call (ok__law_powers T) (hr.mono (by decide)) (by rfl) T.g__law_powers T.F__law_powers.kp T.b__law_powers .nil pass0 (pa_cons (pv 4) (pa_cons (pv 6) pa_nil))) pa_nil)) (pe_op op_sub (pv 4) pe_int) (nomark _)) (nomark _))))) (pss_one (ps_ret pe_bl)) pss_nil))) pss_nil)))
      (pss_cons (ps_set (i := 8) sc_law.nd rfl (.inl rfl) (pe_call (ok_least_root T) (hr.mono (by decide)) (by rfl) T.g_least_root T.F_least_root.kp T.b_least_root .nil pass0 (pa_cons (pv 4) pa_nil)))
      (pss_one (ps_if (PW.pt (pw_or (pt_val (pe_callB call_isi (by rfl) T.m_isinstance (by decide +kernel) (pa_cons (pv 8) (pa_cons (pe_bltn (v := .ty "bool") (u := .type "bool") (by rfl) T.m_bool (by decide +kernel) rfl) pa_nil)))) (pw_or1 (pt_cmpR op_ne (pv 8) (pe_call (ok__law_root T) (hr.mono (by decide)) (by rfl) T.g__law_root T.F__law_root.kp T.b__law_root .nil pass0 (pa_cons (pv 4) (pa_cons pe_int pa_nil))) (nomark _))))) (pss_one (ps_ret pe_bl)) pss_nil))))))))
      (pss_one (ps_ret (pe_and (pe_cmpR (op_eqD hu) (pe_lc (own := [("_law_prime_here", 4)]) (g := gName 4) (tt := tYes) (by rfl) sc_law.nd (pi_list (pe_lst (pa_cons pe_int (pa_cons pe_int (pa_cons pe_int (pa_cons pe_int (pa_cons pe_int (pa_cons pe_int pa_nil)))))))) (blkOk_by (own := [("_law_prime_here", 4)]) (N := ["_law_script", "_law_at", "_law_cell", "_law_number_here", "_law_prime_here", "_law_some", "_law_one", "_law_found", "_law_least"]) (sc := (defScope s_law)) (by decide +kernel)) (fun _ _ _ _ _ => (pg_name (i := 4) sc_law.nd rfl (Or.inl rfl))) (fun _ _ _ _ _ => pts_nil) (fun _ _ _ _ _ => (pe_call (ok_least_root T) (hr.mono (by decide)) (by rfl) T.g_least_root T.F_least_root.kp T.b_least_root .nil pass0 (pa_cons (pv 4) pa_nil)))) (pe_lst (pa_cons pe_int (pa_cons pe_int (pa_cons pe_int (pa_cons pe_int (pa_cons pe_int (pa_cons pe_int pa_nil))))))) (nomark _)) (pe_one (pe_cmpR op_isBl (pe_call (ok_is_root T) (hr.mono (by decide)) (by rfl) T.g_is_root T.F_is_root.kp T.b_is_root .nil pass0 (pa_cons pe_int (pa_cons pe_int pa_nil))) pe_bl (nomark _))))))), ?_⟩
    -- script[:8] + [4]
    refine ⟨_, rfl, 8, rfl, a, _, rfl, hS, fun c nc => ?_⟩
    refine ⟨by show 1 ≤ sizeLine; decide, fun d nd => ?_⟩
    have s1 := same_upd (o := .lst (cutV (ns.map V.int) none (some 8))) nc
    have s2 := same_upd (o := .lst [V.int 4]) nd
    have hc : upd (upd H c (.lst (cutV (ns.map V.int) none (some 8)))) d (.lst [V.int 4]) c = some (.lst (cutV (ns.map V.int) none (some 8))) := s2 _ _ upd_same
    have hcl := cutV_length (ns.map V.int) none (some 8)
    rw [List.length_map] at hcl
    refine ⟨c, d, _, _, rfl, rfl, hc, upd_same, ?_, fun l nl => ?_⟩
    · exact Nat.le_trans (Nat.add_le_add_right (Nat.le_trans hcl hlen) _) (by decide)
    have s3 := same_upd (o := .lst (cutV (ns.map V.int) none (some 8) ++ [V.int 4])) nl
    have s123 := (s1.trans s2).trans s3
    refine ⟨l, _, rfl, .of upd_same, ?_⟩
    generalize hxs : cutV (ns.map V.int) none (some 8) ++ [V.int 4] = xs at *
    have hit : ∀ v ∈ xs, ∃ z : Int, v = .int z ∧ z.natAbs < 2 ^ 1048576 := by
      intro v hv
      rw [← hxs] at hv
      rcases List.mem_append.mp hv with h | h
      · obtain ⟨z, hz, e⟩ := List.mem_map.mp (cutV_mem h)
        exact ⟨z, e.symm, bits_pow (hbits z hz)⟩
      · exact ⟨4, List.mem_singleton.mp h, pow64⟩
    refine for_it walk_enum (fun i σ H' => Same H H' ∧ H' l = some (.lst xs) ∧ ∃ y1 y2 y3 y4 y5 y6 y7 y8, σ = [some (.ref a), y1, y2, y3, y4, y5, y6, y7, y8]) ⟨s123, upd_same, none, none, none, none, none, none, none, none, rfl⟩ (fun i σ H' _ hP => .of hP.2.1) (fun i x σ H2 H3 hi hP hY => ?_) (fun σ H2 hP => ?_)
    · obtain ⟨sm, hl, y1, y2, y3, y4, y5, y6, y7, y8, rfl⟩ := hP
      obtain ⟨t, x1, x2, rfl, nt, rfl, e1, e2⟩ := hY
      cases e1
      obtain ⟨z, rfl, hz⟩ := hit x2 (List.mem_of_getElem? e2)
      have st := same_upd (o := .tup [V.int (i : Int), V.int z]) nt
      refine ⟨t, [.int (i : Int), .int z], rfl, .of upd_same, rfl, .int (i : Int), [.int z], rfl, .int z, [], rfl, rfl, ?_⟩
      have hxl : xs.length ≤ 64 := by
        rw [← hxs, List.length_append]
        exact Nat.add_le_add (Nat.le_trans hcl hlen) (Nat.le_refl 1)
      -- the number
      refine ⟨_, rfl, _, rfl, _, rfl, a, _, rfl, .inl ((sm.trans st).seq hS), z, i, _, 1048576, rfl, by omega, by omega, hz, by decide, by decide, fun n => ?_⟩
      -- the prime
      refine ⟨_, rfl, n, rfl, fun p H4 hp s4 => ?_⟩
      have P := prm_in hp
      have G := P.good
      have lo := G.lo
      have hi' := G.hi
      -- some
      have n0 := Int.emod_nonneg (n / 9) (show (p : Int) - 1 ≠ 0 by omega)
      refine ⟨_, rfl, _, _, rfl, rfl, _, rfl, _, _, rfl, rfl, ⟨by decide, by decide⟩, _, rfl, _, _, rfl, rfl, _, _, rfl, rfl, (show (0 : Int) < (p : Int) - 1 by omega), _, _, rfl, rfl, by show 4 ≤ sizeLine; decide, fun so nso => ?_⟩
      have s5 := same_upd (o := .lst [V.int 1, V.int 2, V.int ((p : Int) - 1), V.int (1 + n / 9 % ((p : Int) - 1))]) nso
      refine ⟨_, rfl, _, rfl, _, _, rfl, _, _, rfl, rfl, ?_, fun r nr => ?_⟩
      · split <;> exact RgOk.of_le (by omega) (by omega) (by omega) (by omega)
      generalize hmn : (if (12 : Int) < (p : Int) then (12 : Int) else (p : Int)) = mn at *
      have hmn1 : mn ≤ 12 := by rw [← hmn]; split <;> omega
      have s6 := same_upd (o := .lst (rgV 1 mn)) nr
      refine ⟨so, r, _, _, rfl, rfl, s6 _ _ upd_same, upd_same, ?_, fun l2 nl2 => ?_⟩
      · rw [rgV_length]
        exact Nat.le_trans (Nat.add_le_add (show _ ≤ 4 from Nat.le_refl 4) (show _ ≤ 12 by omega)) (by decide)
      generalize hys : [V.int 1, V.int 2, V.int ((p : Int) - 1), V.int (1 + n / 9 % ((p : Int) - 1))] ++ rgV 1 mn = ys at *
      have hig : ∀ v ∈ ys, ∃ g : Nat, v = .int g ∧ 1 ≤ g := by
        intro v hv
        rw [← hys] at hv
        rcases List.mem_append.mp hv with h | h
        · simp only [List.mem_cons, List.not_mem_nil, or_false] at h
          rcases h with rfl | rfl | rfl | rfl
          · exact ⟨1, rfl, by omega⟩
          · exact ⟨2, rfl, by omega⟩
          · exact ⟨p - 1, congrArg V.int (by omega), by omega⟩
          · exact ⟨(1 + n / 9 % ((p : Int) - 1)).toNat, congrArg V.int (by omega), by omega⟩
        · obtain ⟨j, hj, e⟩ := List.mem_map.mp h
          exact ⟨1 + j, by rw [← e]; exact congrArg V.int (by omega), by omega⟩
      have s7 := same_upd (o := .lst ys) nl2
      have sall := (((((sm.trans st).trans s4).trans s5).trans s6).trans s7)
      have hl4 := (((((st.trans s4).trans s5).trans s6).trans s7)) _ _ hl
      refine ⟨l2, rfl, ⟨_, .of upd_same⟩, ?_⟩
      refine for_it walk_list (fun j σ H' => Same H H' ∧ H' l = some (.lst xs) ∧ H' l2 = some (.lst ys) ∧ ∃ y6 y7, σ = [some (.ref a), some (.int (i : Int)), some (.int z), some (.int n), some (.int (p : Int)), some (.ref so), y6, y7, y8]) ⟨sall, hl4, upd_same, y6, y7, rfl⟩ (fun j σ H' _ hP => .of hP.2.2.1) (fun j x σ H5 H6 hj hP hY => ?_) (fun σ H5 hP => ?_)
      · obtain ⟨sm5, hl5, hl25, w6, w7, rfl⟩ := hP
        obtain ⟨rfl, e3⟩ := hY
        obtain ⟨g, rfl, hg1⟩ := hig x (List.mem_of_getElem? e3)
        refine ⟨_, rfl, _, rfl, _, _, rfl, rfl, _, rfl, ite2 (fun e => ?_) (fun e => ?_)⟩
        · have hgp : g < p := by have h := dT e; omega
          refine ⟨_, rfl, _, rfl, p, g, rfl, G, hg1, hgp, ?_⟩
          refine ⟨_, rfl, _, _, _, _, true, rfl, .ty _, .base (.bl _), kit_ty (by decide +kernel), true, rfl, iteF ?_⟩
          refine ⟨_, rfl, _, rfl, _, rfl, p, g, rfl, lo, hi', hgp, fun H7 b s7 nb hb => ?_⟩
          refine ⟨b, _, rfl, .inl (.of hb), _, rfl, _, _, rfl, rfl, rfl, rfl, _, rfl, ?_⟩
          rw [powL_len, P.rootB hg1 hgp]
          have e4 : decide (V.int ((plen p g : Nat) : Int) = V.int ((p : Int) - 1)) = decide (plen p g = p - 1) := by
            rw [decide_eq_decide]
            exact ⟨fun h => by have := V.int.inj h; omega, fun h => by rw [h]; exact congrArg V.int (by omega)⟩
          rw [e4, decide_eq_true rfl]
          exact iteF ⟨sm5.trans s7, s7 _ _ hl5, s7 _ _ hl25, _, _, rfl⟩
        · exact ⟨sm5, hl5, hl25, _, _, rfl⟩
      · obtain ⟨sm5, hl5, hl25, w6, w7, rfl⟩ := hP
        refine ⟨_, rfl, p, lr p, rfl, G, P.root.one, P.root.lt, P.lroot, fun g g1 g2 => P.lnot g1 g2, ?_⟩
        refine ⟨_, rfl, _, _, _, _, false, rfl, .ty _, .base (.int _), kit_ty (by decide +kernel), false, rfl, iteF ?_⟩
        refine ⟨_, rfl, _, rfl, p, lr p, 0, rfl, P.root, fun r H7 Rr hle s7 => ?_⟩
        have er : r = lr p := by
          rcases Nat.lt_trichotomy r (lr p) with h | h | h
          · exact absurd Rr.len (P.least r Rr.one h)
          · exact h
          · exact absurd P.root.len (hle rfl (lr p) P.root.one h)
        subst er
        refine ⟨rfl, _, rfl, ?_⟩
        rw [decide_eq_true rfl]
        exact iteF ⟨sm5.trans s7, s7 _ _ hl5, _, _, _, _, _, _, _, _, rfl⟩
    · obtain ⟨sm, hl, y1, y2, y3, y4, y5, y6, y7, y8, rfl⟩ := hP
      refine ⟨by show 6 ≤ sizeLine; decide, fun e ne => ?_⟩
      refine ⟨e, rfl, ⟨_, .of upd_same⟩, fun D nD => ?_⟩
      have neD : e ≠ D := ne_of_none upd_same nD
      refine lc_it (walk_list (xs := PL0.map fun n : Nat => V.int n)) (fun i H' => H' e = some (.lst (PL0.map fun n : Nat => V.int n)) ∧ H' D = some (.lst (((PL0.map lr).take i).map fun n : Nat => V.int n))) ⟨?_, upd_same⟩ (fun i H' _ hP => .of hP.1) (fun i x H4 H5 hi hP hY => ?_) (fun H4 hP => ?_)
      · rw [upd_ne neD]
        exact upd_same
      · obtain ⟨he, hD⟩ := hP
        obtain ⟨rfl, hx⟩ := hY
        rw [List.getElem?_map] at hx
        cases hp : PL0[i]? with
        | none => rw [hp] at hx; cases hx
        | some p =>
          rw [hp] at hx
          cases hx
          have P := prmL p (List.mem_of_getElem? hp)
          refine ⟨rfl, ?_⟩
          refine ⟨_, rfl, p, lr p, rfl, P.good, P.root.one, P.root.lt, P.lroot, fun g g1 g2 => P.lnot g1 g2, _, hD, ?_, ?_, ?_⟩
          · rw [List.length_map, List.length_take]
            exact Nat.lt_of_le_of_lt (Nat.min_le_right _ _) (by decide)
          · rw [upd_ne neD]
            exact he
          · rw [upd_same, List.take_add_one, List.getElem?_map, hp, List.map_append]
            rfl
      · obtain ⟨he, hD⟩ := hP
        refine ⟨by show 6 ≤ sizeLine; decide, fun m nm => ?_⟩
        have s4 := same_upd (o := .lst [V.int 2, V.int 2, V.int 3, V.int 5, V.int 6, V.int 7]) nm
        have e6 : ((PL0.map lr).take (PL0.map fun n : Nat => V.int n).length) = [2, 2, 3, 5, 6, 7] := by decide +kernel
        rw [e6] at hD
        refine ⟨_, _, dp_list (ns := [2, 2, 3, 5, 6, 7]) (.of (s4 _ _ hD)), dp_list (ns := [2, 2, 3, 5, 6, 7]) (.of upd_same), by decide +kernel, by decide +kernel, true, by rfl, iteT ?_⟩
        have G7 := (prmL 7 (by decide)).good
        refine ⟨7, 6, rfl, G7, by decide, by decide, _, _, rfl, rfl, ?_⟩
        rw [show rootB 7 6 = false by decide +kernel]
        exact q _
end
end Lw
namespace Lw
open PySem PySem.Spec PyProof.Rows L2 AD
/-! ### what the top has written; the end -/
theorem all_mk {l : PySem.W.OpenLaw} {w : World} {K : PySem.W.Frag} {h : Heap} {mg : Str → Option Value} {fL f0 f1 f2 f3 f4 f5 f6 f7 f8 f9 f10 f11 f12 f13 : Addr}
    {od0 an0 od1 an1 od2 an2 od3 an3 od4 an4 od5 an5 od6 an6 od7 an7 od8 an8 od9 an9 od10 an10 od11 an11 od12 an12 od13 an13 : Option Addr} {sl0 sl1 sl2 sl3 sl4 sl5 sl6 sl7 sl8 sl9 sl10 sl11 sl12 sl13 : Array (Option Value)} {oc0 kV0 dc0 pm0 cd0 ct0 oc1 kV1 dc1 pm1 cd1 ct1 oc2 kV2 dc2 pm2 cd2 ct2 oc3 kV3 dc3 pm3 cd3 ct3 oc4 kV4 dc4 pm4 cd4 ct4 oc5 kV5 dc5 pm5 cd5 ct5 oc6 kV6 dc6 pm6 cd6 ct6 oc7 kV7 dc7 pm7 cd7 ct7 oc8 kV8 dc8 pm8 cd8 ct8 oc9 kV9 dc9 pm9 cd9 ct9 oc10 kV10 dc10 pm10 cd10 ct10 oc11 kV11 dc11 pm11 cd11 ct11 oc12 kV12 dc12 pm12 cd12 ct12 oc13 kV13 dc13 pm13 cd13 ct13 : Value} {t_MOST : Tok}
    (X : K.In h) (G : h.Ns mainGlobals mg) (hfa : mg "law" = some (.ref fL))
    (z_ValueError : PySem.W.nsIn K mainGlobals "ValueError" = some none)
    (z_bool : PySem.W.nsIn K mainGlobals "bool" = some none)
    (z_enumerate : PySem.W.nsIn K mainGlobals "enumerate" = some none)
    (z_int : PySem.W.nsIn K mainGlobals "int" = some none)
    (z_isinstance : PySem.W.nsIn K mainGlobals "isinstance" = some none)
    (z_len : PySem.W.nsIn K mainGlobals "len" = some none)
    (z_list : PySem.W.nsIn K mainGlobals "list" = some none)
    (z_min : PySem.W.nsIn K mainGlobals "min" = some none)
    (z_range : PySem.W.nsIn K mainGlobals "range" = some none)
    (y_MOST : PySem.W.nsIn K mainGlobals "MOST" = some (some (.int 2000 t_MOST)))
    (a0 : PySem.W.nsIn K mainGlobals "is_whole" = some (some (.ref f0)))
    (l0 : K.lookup f0 = some ⟨oc0, od0, .func (PySem.W.fnOf "is_whole" "is_whole" (defArgs s_is_whole) (defBody s_is_whole) (defScope s_is_whole) .none kV0 dc0 pm0 an0 cd0 ct0), sl0⟩)
    (c0 : PySem.W.codeIn K cd0 "is_whole" = true)
    (k0 : PySem.W.keepIn K (.ref f0) = true)
    (a1 : PySem.W.nsIn K mainGlobals "is_prime" = some (some (.ref f1)))
    (l1 : K.lookup f1 = some ⟨oc1, od1, .func (PySem.W.fnOf "is_prime" "is_prime" (defArgs s_is_prime) (defBody s_is_prime) (defScope s_is_prime) .none kV1 dc1 pm1 an1 cd1 ct1), sl1⟩)
    (c1 : PySem.W.codeIn K cd1 "is_prime" = true)
    (k1 : PySem.W.keepIn K (.ref f1) = true)
    (a2 : PySem.W.nsIn K mainGlobals "asked_prime" = some (some (.ref f2)))
    (l2 : K.lookup f2 = some ⟨oc2, od2, .func (PySem.W.fnOf "asked_prime" "asked_prime" (defArgs s_asked_prime) (defBody s_asked_prime) (defScope s_asked_prime) .none kV2 dc2 pm2 an2 cd2 ct2), sl2⟩)
    (c2 : PySem.W.codeIn K cd2 "asked_prime" = true)
    (k2 : PySem.W.keepIn K (.ref f2) = true)
    (a3 : PySem.W.nsIn K mainGlobals "power" = some (some (.ref f3)))
    (l3 : K.lookup f3 = some ⟨oc3, od3, .func (PySem.W.fnOf "power" "power" (defArgs s_power) (defBody s_power) (defScope s_power) .none kV3 dc3 pm3 an3 cd3 ct3), sl3⟩)
    (c3 : PySem.W.codeIn K cd3 "power" = true)
    (k3 : PySem.W.keepIn K (.ref f3) = true)
    (a4 : PySem.W.nsIn K mainGlobals "root_of" = some (some (.ref f4)))
    (l4 : K.lookup f4 = some ⟨oc4, od4, .func (PySem.W.fnOf "root_of" "root_of" (defArgs s_root_of) (defBody s_root_of) (defScope s_root_of) .none kV4 dc4 pm4 an4 cd4 ct4), sl4⟩)
    (c4 : PySem.W.codeIn K cd4 "root_of" = true)
    (k4 : PySem.W.keepIn K (.ref f4) = true)
    (a5 : PySem.W.nsIn K mainGlobals "is_root" = some (some (.ref f5)))
    (l5 : K.lookup f5 = some ⟨oc5, od5, .func (PySem.W.fnOf "is_root" "is_root" (defArgs s_is_root) (defBody s_is_root) (defScope s_is_root) .none kV5 dc5 pm5 an5 cd5 ct5), sl5⟩)
    (c5 : PySem.W.codeIn K cd5 "is_root" = true)
    (k5 : PySem.W.keepIn K (.ref f5) = true)
    (a6 : PySem.W.nsIn K mainGlobals "least_root" = some (some (.ref f6)))
    (l6 : K.lookup f6 = some ⟨oc6, od6, .func (PySem.W.fnOf "least_root" "least_root" (defArgs s_least_root) (defBody s_least_root) (defScope s_least_root) .none kV6 dc6 pm6 an6 cd6 ct6), sl6⟩)
    (c6 : PySem.W.codeIn K cd6 "least_root" = true)
    (k6 : PySem.W.keepIn K (.ref f6) = true)
    (a7 : PySem.W.nsIn K mainGlobals "_law_number" = some (some (.ref f7)))
    (l7 : K.lookup f7 = some ⟨oc7, od7, .func (PySem.W.fnOf "_law_number" "_law_number" (defArgs s__law_number) (defBody s__law_number) (defScope s__law_number) .none kV7 dc7 pm7 an7 cd7 ct7), sl7⟩)
    (c7 : PySem.W.codeIn K cd7 "_law_number" = true)
    (k7 : PySem.W.keepIn K (.ref f7) = true)
    (a8 : PySem.W.nsIn K mainGlobals "_law_prime" = some (some (.ref f8)))
    (l8 : K.lookup f8 = some ⟨oc8, od8, .func (PySem.W.fnOf "_law_prime" "_law_prime" (defArgs s__law_prime) (defBody s__law_prime) (defScope s__law_prime) .none kV8 dc8 pm8 an8 cd8 ct8), sl8⟩)
    (c8 : PySem.W.codeIn K cd8 "_law_prime" = true)
    (k8 : PySem.W.keepIn K (.ref f8) = true)
    (a9 : PySem.W.nsIn K mainGlobals "_law_powers" = some (some (.ref f9)))
    (l9 : K.lookup f9 = some ⟨oc9, od9, .func (PySem.W.fnOf "_law_powers" "_law_powers" (defArgs s__law_powers) (defBody s__law_powers) (defScope s__law_powers) .none kV9 dc9 pm9 an9 cd9 ct9), sl9⟩)
    (c9 : PySem.W.codeIn K cd9 "_law_powers" = true)
    (k9 : PySem.W.keepIn K (.ref f9) = true)
    (a10 : PySem.W.nsIn K mainGlobals "_law_root" = some (some (.ref f10)))
    (l10 : K.lookup f10 = some ⟨oc10, od10, .func (PySem.W.fnOf "_law_root" "_law_root" (defArgs s__law_root) (defBody s__law_root) (defScope s__law_root) .none kV10 dc10 pm10 an10 cd10 ct10), sl10⟩)
    (c10 : PySem.W.codeIn K cd10 "_law_root" = true)
    (k10 : PySem.W.keepIn K (.ref f10) = true)
    (a11 : PySem.W.nsIn K mainGlobals "_law_plan" = some (some (.ref f11)))
    (l11 : K.lookup f11 = some ⟨oc11, od11, .func (PySem.W.fnOf "_law_plan" "_law_plan" (defArgs s__law_plan) (defBody s__law_plan) (defScope s__law_plan) .none kV11 dc11 pm11 an11 cd11 ct11), sl11⟩)
    (c11 : PySem.W.codeIn K cd11 "_law_plan" = true)
    (k11 : PySem.W.keepIn K (.ref f11) = true)
    (a12 : PySem.W.nsIn K mainGlobals "_law_rows" = some (some (.ref f12)))
    (l12 : K.lookup f12 = some ⟨oc12, od12, .func (PySem.W.fnOf "_law_rows" "_law_rows" (defArgs s__law_rows) (defBody s__law_rows) (defScope s__law_rows) .none kV12 dc12 pm12 an12 cd12 ct12), sl12⟩)
    (c12 : PySem.W.codeIn K cd12 "_law_rows" = true)
    (k12 : PySem.W.keepIn K (.ref f12) = true)
    (a13 : PySem.W.nsIn K mainGlobals "law" = some (some (.ref f13)))
    (l13 : K.lookup f13 = some ⟨oc13, od13, .func (PySem.W.fnOf "law" "law" (defArgs s_law) (defBody s_law) (defScope s_law) .none kV13 dc13 pm13 an13 cd13 ct13), sl13⟩)
    (c13 : PySem.W.codeIn K cd13 "law" = true)
    (k13 : PySem.W.keepIn K (.ref f13) = true)
    : ∃ fd : FuncData, (∀ (s : Shared) (v : Value), BindsTo s fd ⟨[v], []⟩ [("_law_script", v)]) ∧ ∀ base : Heap, K.In base → base.Ns mainGlobals mg → FnOk l.prog w K mg base CX0 4 fL fd ["_law_script"] (spLaw K) := by
  have e := hfa.symm.trans (PySem.W.mg_of X G a13)
  cases e
  have F0 := fun_mk (st := s_is_whole) l0 c0 k0
  have b0 := F0.binds (ps := ["thing"]) fun _ _ _ _ _ _ us hl => match us, hl with | [_], _ => rfl
  have F1 := fun_mk (st := s_is_prime) l1 c1 k1
  have b1 := F1.binds (ps := ["number"]) fun _ _ _ _ _ _ us hl => match us, hl with | [_], _ => rfl
  have F2 := fun_mk (st := s_asked_prime) l2 c2 k2
  have b2 := F2.binds (ps := ["prime", "most"]) fun _ _ _ _ _ _ us hl => match us, hl with | [_, _], _ => rfl
  have F3 := fun_mk (st := s_power) l3 c3 k3
  have b3 := F3.binds (ps := ["number", "times", "prime"]) fun _ _ _ _ _ _ us hl => match us, hl with | [_, _, _], _ => rfl
  have F4 := fun_mk (st := s_root_of) l4 c4 k4
  have b4 := F4.binds (ps := ["prime", "number"]) fun _ _ _ _ _ _ us hl => match us, hl with | [_, _], _ => rfl
  have F5 := fun_mk (st := s_is_root) l5 c5 k5
  have b5 := F5.binds (ps := ["prime", "number"]) fun _ _ _ _ _ _ us hl => match us, hl with | [_, _], _ => rfl
  have F6 := fun_mk (st := s_least_root) l6 c6 k6
  have b6 := F6.binds (ps := ["prime"]) fun _ _ _ _ _ _ us hl => match us, hl with | [_], _ => rfl
  have F7 := fun_mk (st := s__law_number) l7 c7 k7
  have b7 := F7.binds (ps := ["_law_cell", "_law_at", "_law_whole"]) fun _ _ _ _ _ _ us hl => match us, hl with | [_, _, _], _ => rfl
  have F8 := fun_mk (st := s__law_prime) l8 c8 k8
  have b8 := F8.binds (ps := ["_law_number_here"]) fun _ _ _ _ _ _ us hl => match us, hl with | [_], _ => rfl
  have F9 := fun_mk (st := s__law_powers) l9 c9 k9
  have b9 := F9.binds (ps := ["_law_prime_here", "_law_number_here"]) fun _ _ _ _ _ _ us hl => match us, hl with | [_, _], _ => rfl
  have F10 := fun_mk (st := s__law_root) l10 c10 k10
  have b10 := F10.binds (ps := ["_law_prime_here", "_law_number_here"]) fun _ _ _ _ _ _ us hl => match us, hl with | [_, _], _ => rfl
  have F11 := fun_mk (st := s__law_plan) l11 c11 k11
  have b11 := F11.binds (ps := ["_law_script", "_law_by"]) fun _ _ _ _ _ _ us hl => match us, hl with | [_, _], _ => rfl
  have F12 := fun_mk (st := s__law_rows) l12 c12 k12
  have b12 := F12.binds (ps := ["_law_prime_here", "_law_root_here", "_law_begin"]) fun _ _ _ _ _ _ us hl => match us, hl with | [_, _, _], _ => rfl
  have F13 := fun_mk (st := s_law) l13 c13 k13
  have b13 := F13.binds (ps := ["_law_script"]) fun _ _ _ _ _ _ us hl => match us, hl with | [_], _ => rfl
  have T : Txt K mg (fun i => [f0, f1, f2, f3, f4, f5, f6, f7, f8, f9, f10, f11, f12, fL].getD i 0) (fun i => [PySem.W.fnOf "is_whole" "is_whole" (defArgs s_is_whole) (defBody s_is_whole) (defScope s_is_whole) .none kV0 dc0 pm0 an0 cd0 ct0,
      PySem.W.fnOf "is_prime" "is_prime" (defArgs s_is_prime) (defBody s_is_prime) (defScope s_is_prime) .none kV1 dc1 pm1 an1 cd1 ct1,
      PySem.W.fnOf "asked_prime" "asked_prime" (defArgs s_asked_prime) (defBody s_asked_prime) (defScope s_asked_prime) .none kV2 dc2 pm2 an2 cd2 ct2,
      PySem.W.fnOf "power" "power" (defArgs s_power) (defBody s_power) (defScope s_power) .none kV3 dc3 pm3 an3 cd3 ct3,
      PySem.W.fnOf "root_of" "root_of" (defArgs s_root_of) (defBody s_root_of) (defScope s_root_of) .none kV4 dc4 pm4 an4 cd4 ct4,
      PySem.W.fnOf "is_root" "is_root" (defArgs s_is_root) (defBody s_is_root) (defScope s_is_root) .none kV5 dc5 pm5 an5 cd5 ct5,
      PySem.W.fnOf "least_root" "least_root" (defArgs s_least_root) (defBody s_least_root) (defScope s_least_root) .none kV6 dc6 pm6 an6 cd6 ct6,
      PySem.W.fnOf "_law_number" "_law_number" (defArgs s__law_number) (defBody s__law_number) (defScope s__law_number) .none kV7 dc7 pm7 an7 cd7 ct7,
      PySem.W.fnOf "_law_prime" "_law_prime" (defArgs s__law_prime) (defBody s__law_prime) (defScope s__law_prime) .none kV8 dc8 pm8 an8 cd8 ct8,
      PySem.W.fnOf "_law_powers" "_law_powers" (defArgs s__law_powers) (defBody s__law_powers) (defScope s__law_powers) .none kV9 dc9 pm9 an9 cd9 ct9,
      PySem.W.fnOf "_law_root" "_law_root" (defArgs s__law_root) (defBody s__law_root) (defScope s__law_root) .none kV10 dc10 pm10 an10 cd10 ct10,
      PySem.W.fnOf "_law_plan" "_law_plan" (defArgs s__law_plan) (defBody s__law_plan) (defScope s__law_plan) .none kV11 dc11 pm11 an11 cd11 ct11,
      PySem.W.fnOf "_law_rows" "_law_rows" (defArgs s__law_rows) (defBody s__law_rows) (defScope s__law_rows) .none kV12 dc12 pm12 an12 cd12 ct12,
      PySem.W.fnOf "law" "law" (defArgs s_law) (defBody s_law) (defScope s_law) .none kV13 dc13 pm13 an13 cd13 ct13].getD i (PySem.W.fnOf "is_whole" "is_whole" (defArgs s_is_whole) (defBody s_is_whole) (defScope s_is_whole) .none kV0 dc0 pm0 an0 cd0 ct0)) (fun i => [t_MOST].getD i default) := {
    m_ValueError := PySem.W.mg_none_of X G z_ValueError
    m_bool := PySem.W.mg_none_of X G z_bool
    m_enumerate := PySem.W.mg_none_of X G z_enumerate
    m_int := PySem.W.mg_none_of X G z_int
    m_isinstance := PySem.W.mg_none_of X G z_isinstance
    m_len := PySem.W.mg_none_of X G z_len
    m_list := PySem.W.mg_none_of X G z_list
    m_min := PySem.W.mg_none_of X G z_min
    m_range := PySem.W.mg_none_of X G z_range
    g_MOST := PySem.W.mg_of X G y_MOST
    g_is_whole := PySem.W.mg_of X G a0, F_is_whole := F0, b_is_whole := b0
    g_is_prime := PySem.W.mg_of X G a1, F_is_prime := F1, b_is_prime := b1
    g_asked_prime := PySem.W.mg_of X G a2, F_asked_prime := F2, b_asked_prime := b2
    g_power := PySem.W.mg_of X G a3, F_power := F3, b_power := b3
    g_root_of := PySem.W.mg_of X G a4, F_root_of := F4, b_root_of := b4
    g_is_root := PySem.W.mg_of X G a5, F_is_root := F5, b_is_root := b5
    g_least_root := PySem.W.mg_of X G a6, F_least_root := F6, b_least_root := b6
    g__law_number := PySem.W.mg_of X G a7, F__law_number := F7, b__law_number := b7
    g__law_prime := PySem.W.mg_of X G a8, F__law_prime := F8, b__law_prime := b8
    g__law_powers := PySem.W.mg_of X G a9, F__law_powers := F9, b__law_powers := b9
    g__law_root := PySem.W.mg_of X G a10, F__law_root := F10, b__law_root := b10
    g__law_plan := PySem.W.mg_of X G a11, F__law_plan := F11, b__law_plan := b11
    g__law_rows := PySem.W.mg_of X G a12, F__law_rows := F12, b__law_rows := b12
    g_law := PySem.W.mg_of X G a13, F_law := F13, b_law := b13
  }
  exact ⟨PySem.W.fnOf "law" "law" (defArgs s_law) (defBody s_law) (defScope s_law) .none kV13 dc13 pm13 an13 cd13 ct13, fun s v => .of_eq rfl, fun base _ _ => ok_law T⟩
end Lw
open PySem PySem.W PyProof.Rows
set_option maxHeartbeats 0 in
theorem PySem.Challenge.cw_arrowdots_k01_roots_holds : PySem.Challenge.rw_arrowdots_k01_roots.Holds := by
  w_on; o_law; k_head; (case hw => w_witness2)
  k_fill
  refine L2.walk_ofB (l := PySem.Challenge.rw_arrowdots_k01_roots) (n := 63) (k := 4) (x := "_law_script") (CX := fun _ => L2.CX0) (sp := fun w => Lw.spLaw _) rfl (by decide) rfl ⟨rfl, by decide, by decide⟩ (fun w h Y => PySem.W.kIn_of Y) ?F (fun _ _ a ns hl hb _ hS => ⟨a, ns, rfl, hS, hl, hb, fun _ => rfl⟩) (fun _ _ _ _ _ h => h)
  case F =>
    intro w mg fa h KX G hmg
    refine' Lw.all_mk KX G hmg ?z_ValueError ?z_bool ?z_enumerate ?z_int ?z_isinstance ?z_len ?z_list ?z_min ?z_range ?y_MOST ?a0 ?l0 ?c0 ?k0 ?a1 ?l1 ?c1 ?k1 ?a2 ?l2 ?c2 ?k2 ?a3 ?l3 ?c3 ?k3 ?a4 ?l4 ?c4 ?k4 ?a5 ?l5 ?c5 ?k5 ?a6 ?l6 ?c6 ?k6 ?a7 ?l7 ?c7 ?k7 ?a8 ?l8 ?c8 ?k8 ?a9 ?l9 ?c9 ?k9 ?a10 ?l10 ?c10 ?k10 ?a11 ?l11 ?c11 ?k11 ?a12 ?l12 ?c12 ?k12 ?a13 ?l13 ?c13 ?k13
    (case z_ValueError => k_is)
    (case z_bool => k_is)
    (case z_enumerate => k_is)
    (case z_int => k_is)
    (case z_isinstance => k_is)
    (case z_len => k_is)
    (case z_list => k_is)
    (case z_min => k_is)
    (case z_range => k_is)
    (case y_MOST => k_is)
    (case a0 => k_is)
    (case l0 => k_is)
    (case c0 => k_is)
    (case k0 => k_is)
    (case a1 => k_is)
    (case l1 => k_is)
    (case c1 => k_is)
    (case k1 => k_is)
    (case a2 => k_is)
    (case l2 => k_is)
    (case c2 => k_is)
    (case k2 => k_is)
    (case a3 => k_is)
    (case l3 => k_is)
    (case c3 => k_is)
    (case k3 => k_is)
    (case a4 => k_is)
    (case l4 => k_is)
    (case c4 => k_is)
    (case k4 => k_is)
    (case a5 => k_is)
    (case l5 => k_is)
    (case c5 => k_is)
    (case k5 => k_is)
    (case a6 => k_is)
    (case l6 => k_is)
    (case c6 => k_is)
    (case k6 => k_is)
    (case a7 => k_is)
    (case l7 => k_is)
    (case c7 => k_is)
    (case k7 => k_is)
    (case a8 => k_is)
    (case l8 => k_is)
    (case c8 => k_is)
    (case k8 => k_is)
    (case a9 => k_is)
    (case l9 => k_is)
    (case c9 => k_is)
    (case k9 => k_is)
    (case a10 => k_is)
    (case l10 => k_is)
    (case c10 => k_is)
    (case k10 => k_is)
    (case a11 => k_is)
    (case l11 => k_is)
    (case c11 => k_is)
    (case k11 => k_is)
    (case a12 => k_is)
    (case l12 => k_is)
    (case c12 => k_is)
    (case k12 => k_is)
    (case a13 => k_is)
    (case l13 => k_is)
    (case c13 => k_is)
    (case k13 => k_is)
