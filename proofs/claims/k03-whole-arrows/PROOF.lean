import PyProof.Rows.All
import Wide.All
import OpenK.AllK
import Wide.FinOn
import HandS.ForMost
import HandS.Wide
import HandS.IsInst
import HandS.Style
import HandS.Conv
import HandS.EndBits
import HandS.More
import HandS.Codes
import HandS.Walk
import PySem.Challenge.RW_arrowdots_k03_whole_arrows
set_option Elab.async false
set_option linter.all false
set_option maxRecDepth 100000
set_option maxHeartbeats 4000000
namespace AD
/-! ### the loops as plain functions -/
def plenAux (p g : Nat) : Nat → Nat → Nat → Nat
  | 0, _, n => n
  | f + 1, x, n => match Nat.beq x 1 with
    | true => n
    | false => plenAux p g f (x * g % p) (n + 1)
/-- how many powers there are to 1 -/
def plen (p g : Nat) : Nat := plenAux p g (p - 1) (g % p) 1
def stripN (a : Nat) : Nat → Nat → Nat
  | 0, left => left
  | f + 1, left => match Nat.beq (left % a) 0 with
    | true => stripN a f (left / a)
    | false => left
def rootLoop (p g : Nat) : Nat → Nat → Nat → Bool
  | 0, _, _ => true
  | f + 1, left, a => match Nat.ble left 1 with
    | true => true
    | false => match Nat.beq (left % a) 0 with
      | true => match Nat.beq (g ^ ((p - 1) / a) % p) 1 with
        | true => false
        | false => rootLoop p g f (stripN a left left) (a + 1)
      | false => rootLoop p g f left (a + 1)
def rootB (p g : Nat) : Bool := rootLoop p g p (p - 1) 2
def primeLoop (n : Nat) : Nat → Nat → Bool
  | 0, _ => true
  | f + 1, a => match Nat.ble (a * a) n with
    | false => true
    | true => match Nat.beq (n % a) 0 with
      | true => false
      | false => primeLoop n f (a + 1)
def primeB (n : Nat) : Bool := primeLoop n n 2
def allTo (f : Nat → Bool) : Nat → Bool
  | 0 => true
  | n + 1 => match f n with
    | true => allTo f n
    | false => false
theorem allTo_at {f : Nat → Bool} : ∀ {n : Nat}, allTo f n = true → ∀ i, i < n → f i = true
  | 0, _, i, h => absurd h (Nat.not_lt_zero i)
  | n + 1, e, i, h => by
    unfold allTo at e
    cases q : f n with
    | false => rw [q] at e; cases e
    | true =>
      rw [q] at e
      by_cases z : i = n
      · rw [z]; exact q
      · exact allTo_at e i (by omega)
def ferB (p : Nat) : Bool := allTo (fun x => Nat.beq ((x + 1) ^ (p - 1) % p) 1) (p - 1)
def rtB (p : Nat) : Bool := allTo (fun x => rootB p (x + 1) == Nat.beq (plen p (x + 1)) (p - 1)) (p - 1)

/-- what is known of a prime -/
structure Good (p : Nat) : Prop where
  lo : 3 ≤ p
  hi : p ≤ 2000
  pr : primeB p = true
  fer : ferB p = true

theorem Good.fer1 {p x : Nat} (G : Good p) (h1 : 1 ≤ x) (h2 : x < p) : x ^ (p - 1) % p = 1 := by
  have h := allTo_at G.fer (x - 1) (by omega)
  have e : x - 1 + 1 = x := by omega
  rw [e] at h
  exact Nat.eq_of_beq_eq_true h
theorem rt_of {p g : Nat} (h : rtB p = true) (h1 : 1 ≤ g) (h2 : g < p) : rootB p g = decide (plen p g = p - 1) := by
  have h := allTo_at h (g - 1) (by omega)
  have e : g - 1 + 1 = g := by omega
  rw [e] at h
  rw [eq_of_beq h]
  by_cases z : plen p g = p - 1
  · rw [decide_eq_true z, z]; exact Nat.beq_refl _
  · rw [decide_eq_false z]
    cases q : Nat.beq (plen p g) (p - 1) with
    | false => rfl
    | true => exact absurd (Nat.eq_of_beq_eq_true q) z

/-! ### how many powers -/
theorem plenAux_spec (p g : Nat) : ∀ (f n : Nat), ∃ m, plenAux p g f (g ^ n % p) n = m ∧ n ≤ m ∧ m ≤ n + f ∧ (∀ k, n ≤ k → k < m → g ^ k % p ≠ 1) ∧ (m < n + f → g ^ m % p = 1)
  | 0, n => ⟨n, rfl, Nat.le_refl _, Nat.le_refl _, fun k h1 h2 => by omega, fun h => by omega⟩
  | f + 1, n => by
    unfold plenAux
    cases q : Nat.beq (g ^ n % p) 1 with
    | true => exact ⟨n, rfl, Nat.le_refl _, by omega, fun k h1 h2 => by omega, fun _ => Nat.eq_of_beq_eq_true q⟩
    | false =>
      have e : g ^ n % p * g % p = g ^ (n + 1) % p := by rw [Nat.pow_succ, Nat.mod_mul_mod]
      show ∃ m, plenAux p g f (g ^ n % p * g % p) (n + 1) = m ∧ _
      rw [e]
      obtain ⟨m, h0, h1, h2, h3, h4⟩ := plenAux_spec p g f (n + 1)
      refine ⟨m, h0, by omega, by omega, fun k k1 k2 => ?_, fun h => h4 (by omega)⟩
      by_cases z : k = n
      · subst z
        intro y
        rw [y] at q
        cases q
      · exact h3 k (by omega) k2
theorem plen_spec (p g : Nat) (hp : 1 ≤ p) : 1 ≤ plen p g ∧ plen p g ≤ p ∧ (∀ k, 1 ≤ k → k < plen p g → g ^ k % p ≠ 1) ∧ (plen p g < p → g ^ plen p g % p = 1) := by
  obtain ⟨m, h0, h1, h2, h3, h4⟩ := plenAux_spec p g (p - 1) 1
  rw [Nat.pow_one] at h0
  have e : plen p g = m := h0
  rw [e]
  exact ⟨h1, by omega, h3, fun h => h4 (by omega)⟩
theorem plen_unique {p g n : Nat} (hp : 1 ≤ p) (h1 : 1 ≤ n) (h2 : n ≤ p) (h3 : ∀ k, 1 ≤ k → k < n → g ^ k % p ≠ 1) (h4 : g ^ n % p = 1 ∨ n = p) : plen p g = n := by
  obtain ⟨a1, a2, a3, a4⟩ := plen_spec p g hp
  rcases Nat.lt_trichotomy (plen p g) n with h | h | h
  · exact absurd (a4 (by omega)) (h3 _ a1 h)
  · exact h
  · rcases h4 with z | z
    · exact absurd z (a3 n h1 h)
    · omega

/-! ### what is left by a prime -/
theorem Good.ferm {p x : Nat} (G : Good p) (h : x % p ≠ 0) : x ^ (p - 1) % p = 1 := by
  have lo := G.lo
  rw [Nat.pow_mod]
  exact G.fer1 (by omega) (Nat.mod_lt _ (by omega))
/-- the last but one power is what makes 1 of a number -/
theorem Good.inv {p x : Nat} (G : Good p) (h : x % p ≠ 0) : x ^ (p - 2) * x % p = 1 := by
  have lo := G.lo
  rw [← Nat.pow_succ, show (p - 2).succ = p - 1 by omega]
  exact G.ferm h
theorem mul_left_mod {p a b : Nat} (c : Nat) (h : a % p = b % p) : c * a % p = c * b % p := by
  rw [Nat.mul_mod, h, ← Nat.mul_mod]
theorem mul_right_mod {p a b : Nat} (c : Nat) (h : a % p = b % p) : a * c % p = b * c % p := by
  rw [Nat.mul_mod, h, ← Nat.mul_mod]
theorem Good.cancel {p x a b : Nat} (G : Good p) (h : x % p ≠ 0) (e : x * a % p = x * b % p) : a % p = b % p := by
  have lo := G.lo
  have k : ∀ c, x ^ (p - 2) * (x * c) % p = c % p := fun c => by
    rw [← Nat.mul_assoc, Nat.mul_mod, G.inv h, Nat.one_mul, Nat.mod_mod]
  have z := mul_left_mod (x ^ (p - 2)) e
  rw [k, k] at z
  exact z
theorem Good.mul_ne {p a b : Nat} (G : Good p) (ha : a % p ≠ 0) (hb : b % p ≠ 0) : a * b % p ≠ 0 := fun z => by
  have e : a * b % p = a * 0 % p := by rw [z, Nat.mul_zero, Nat.zero_mod]
  exact hb (by rw [G.cancel ha e, Nat.zero_mod])
theorem Good.pow_ne {p g : Nat} (G : Good p) (hg : g % p ≠ 0) : ∀ n, g ^ n % p ≠ 0
  | 0 => by
    have lo := G.lo
    rw [Nat.pow_zero, Nat.mod_eq_of_lt (by omega)]
    exact Nat.one_ne_zero
  | n + 1 => by
    rw [Nat.pow_succ]
    exact G.mul_ne (G.pow_ne hg n) hg
theorem Good.pow_pos {p g : Nat} (G : Good p) (hg : g % p ≠ 0) (n : Nat) : 1 ≤ g ^ n % p := Nat.pos_of_ne_zero (G.pow_ne hg n)

theorem Good.plen_le {p g : Nat} (G : Good p) (h1 : 1 ≤ g) (h2 : g < p) : plen p g ≤ p - 1 := by
  have lo := G.lo
  obtain ⟨a1, a2, a3, a4⟩ := plen_spec p g (by omega)
  rcases Nat.lt_or_ge (p - 1) (plen p g) with z | z
  · exact absurd (G.fer1 h1 h2) (a3 (p - 1) (by omega) z)
  · exact z
/-! ### a root -/
/-- a root of a prime -/
structure Root (p g : Nat) : Prop where
  good : Good p
  one : 1 ≤ g
  lt : g < p
  len : plen p g = p - 1
theorem Root.ne {p g : Nat} (R : Root p g) : g % p ≠ 0 := by
  have h := R.one
  rw [Nat.mod_eq_of_lt R.lt]
  omega
theorem Root.per {p g : Nat} (R : Root p g) (n : Nat) : g ^ (n % (p - 1)) % p = g ^ n % p := by
  have lo := R.good.lo
  conv => rhs; rw [← Nat.div_add_mod n (p - 1), Nat.pow_add, Nat.pow_mul, Nat.mul_mod, Nat.pow_mod, R.good.ferm R.ne, Nat.one_pow, ← Nat.mul_mod, Nat.one_mul]
theorem Root.inj0 {p g i d : Nat} (R : Root p g) (hd : 1 ≤ d) (hd2 : d < p - 1) : g ^ i % p ≠ g ^ (i + d) % p := fun e => by
  have lo := R.good.lo
  rw [Nat.pow_add] at e
  have e1 : g ^ i * 1 % p = g ^ i * g ^ d % p := by rw [Nat.mul_one]; exact e
  have e2 := R.good.cancel (R.good.pow_ne R.ne i) e1
  rw [Nat.mod_eq_of_lt (show 1 < p by omega)] at e2
  exact (plen_spec p g (by omega)).2.2.1 d hd (by rw [R.len]; omega) e2.symm
theorem Root.inj {p g i j : Nat} (R : Root p g) (hi : i < p - 1) (hj : j < p - 1) (e : g ^ i % p = g ^ j % p) : i = j := by
  rcases Nat.lt_trichotomy i j with h | h | h
  · exact absurd (by rw [show i + (j - i) = j by omega]; exact e) (R.inj0 (i := i) (d := j - i) (by omega) (by omega))
  · exact h
  · exact absurd (by rw [show j + (i - j) = i by omega]; exact e.symm) (R.inj0 (i := j) (d := i - j) (by omega) (by omega))
/-- equal powers: the numbers differ by a multiple of one less than the prime -/
theorem Root.injm {p g i j : Nat} (R : Root p g) (e : g ^ i % p = g ^ j % p) : i % (p - 1) = j % (p - 1) := by
  have lo := R.good.lo
  rw [← R.per i, ← R.per j] at e
  exact R.inj (Nat.mod_lt _ (by omega)) (Nat.mod_lt _ (by omega)) e

/-! ### as many places as things -/
theorem nodup_len : ∀ (n : Nat) (l : List Nat), l.Nodup → (∀ x ∈ l, x < n) → l.length ≤ n
  | 0, l, _, h => by
    cases l with
    | nil => exact Nat.le_refl _
    | cons x r => exact absurd (h x (List.mem_cons_self ..)) (Nat.not_lt_zero x)
  | n + 1, l, hn, h => by
    have h1 : (l.erase n).Nodup := hn.erase n
    have h2 := nodup_len n (l.erase n) h1 fun x hx => by
      have a := h x (List.mem_of_mem_erase hx)
      have b : x ≠ n := fun e => by
        subst e
        exact (List.Nodup.mem_erase_iff hn).mp hx |>.1 rfl
      omega
    have h3 := List.length_erase (a := n) (l := l)
    rw [h3] at h2
    split at h2 <;> omega
theorem nodup_full {n : Nat} {l : List Nat} (hn : l.Nodup) (h : ∀ x ∈ l, x < n) (hl : l.length = n) {x : Nat} (hx : x < n) : x ∈ l := by
  by_cases m : x ∈ l
  · exact m
  · have h1 : (x :: l).Nodup := List.nodup_cons.mpr ⟨m, hn⟩
    have h2 := nodup_len n (x :: l) h1 fun y hy => by
      rcases List.mem_cons.mp hy with e | e
      · rw [e]; exact hx
      · exact h y e
    rw [List.length_cons] at h2
    omega
theorem map_nodup {α β : Type} {f : α → β} : ∀ {l : List α}, l.Nodup → (∀ x ∈ l, ∀ y ∈ l, f x = f y → x = y) → (l.map f).Nodup
  | [], _, _ => List.nodup_nil
  | a :: r, h, hi => by
    obtain ⟨h1, h2⟩ := List.nodup_cons.mp h
    refine List.nodup_cons.mpr ⟨fun m => ?_, map_nodup h2 fun x hx y hy => hi x (List.mem_cons_of_mem _ hx) y (List.mem_cons_of_mem _ hy)⟩
    obtain ⟨b, hb, e⟩ := List.mem_map.mp m
    have z := hi b (List.mem_cons_of_mem _ hb) a (List.mem_cons_self ..) e
    rw [z] at hb
    exact h1 hb
/-- every number from 1 to below the prime is a power -/
theorem Root.onto {p g x : Nat} (R : Root p g) (h1 : 1 ≤ x) (h2 : x < p) : ∃ k, k < p - 1 ∧ g ^ k % p = x := by
  have lo := R.good.lo
  let l := (List.range (p - 1)).map fun k => g ^ k % p - 1
  have hn : l.Nodup := map_nodup List.nodup_range fun i hi j hj e => by
    have a := R.good.pow_pos R.ne i
    have b := R.good.pow_pos R.ne j
    exact R.inj (List.mem_range.mp hi) (List.mem_range.mp hj) (by omega)
  have hb : ∀ y ∈ l, y < p - 1 := fun y hy => by
    obtain ⟨k, hk, e⟩ := List.mem_map.mp hy
    have a := R.good.pow_pos R.ne k
    have b := Nat.mod_lt (g ^ k) (show p > 0 by omega)
    omega
  have hm := nodup_full hn hb (by rw [List.length_map, List.length_range]) (x := x - 1) (by omega)
  obtain ⟨k, hk, e⟩ := List.mem_map.mp hm
  have a := R.good.pow_pos R.ne k
  exact ⟨k, List.mem_range.mp hk, by omega⟩
end AD
namespace AD
/-! ### the law's primes -/
def PS0 : List Nat := [3, 5, 7, 11, 13, 17, 19, 23, 29, 31, 37, 41, 43, 47, 53, 59, 61]
def PG0 : List Nat := [97, 101, 257, 331, 499]
def lrAux (p : Nat) : Nat → Nat → Nat
  | 0, g => g
  | f + 1, g => match Nat.beq (plen p g) (p - 1) with
    | true => g
    | false => lrAux p f (g + 1)
/-- the least root -/
def lr (p : Nat) : Nat := lrAux p p 1
def goodB (p : Nat) : Bool := Nat.ble 3 p && (Nat.ble p 2000 && (primeB p && ferB p))
def lrB (p : Nat) : Bool := Nat.ble 1 (lr p) && (Nat.blt (lr p) p && (Nat.beq (plen p (lr p)) (p - 1) && allTo (fun x => !Nat.beq (plen p (x + 1)) (p - 1)) (lr p - 1)))
theorem good_of {p : Nat} (h : goodB p = true) : Good p := by
  unfold goodB at h
  simp only [Bool.and_eq_true] at h
  exact ⟨Nat.le_of_ble_eq_true h.1, Nat.le_of_ble_eq_true h.2.1, h.2.2.1, h.2.2.2⟩
theorem lr_of {p : Nat} (G : Good p) (h : lrB p = true) : Root p (lr p) ∧ ∀ g, 1 ≤ g → g < lr p → plen p g ≠ p - 1 := by
  unfold lrB at h
  simp only [Bool.and_eq_true] at h
  refine ⟨⟨G, Nat.le_of_ble_eq_true h.1, Nat.le_of_ble_eq_true h.2.1, Nat.eq_of_beq_eq_true h.2.2.1⟩, fun g g1 g2 z => ?_⟩
  have k := allTo_at h.2.2.2 (g - 1) (by omega)
  have e : g - 1 + 1 = g := by omega
  rw [e, z] at k
  rw [show Nat.beq (p - 1) (p - 1) = true from Nat.beq_refl _] at k
  cases k
theorem good_all : (PS0 ++ PG0).all (fun p => goodB p && lrB p) = true := by decide +kernel
theorem rt_all : (PS0 ++ PG0).all (fun p => rtB p) = true := by decide +kernel
theorem good71 : (goodB 71 && lrB 71) = true := by decide +kernel
theorem rt71 : rtB 71 = true := by decide +kernel
/-- what is known of a law's prime -/
structure Prm (p : Nat) : Prop where
  good : Good p
  rt : rtB p = true
  root : Root p (lr p)
  least : ∀ g, 1 ≤ g → g < lr p → plen p g ≠ p - 1
theorem prm_mk {p : Nat} (h1 : (goodB p && lrB p) = true) (h2 : rtB p = true) : Prm p := by
  rw [Bool.and_eq_true] at h1
  have G := good_of h1.1
  obtain ⟨a, b⟩ := lr_of G h1.2
  exact ⟨G, h2, a, b⟩
theorem prm_in {p : Nat} (h : p ∈ PS0 ++ PG0) : Prm p := prm_mk (List.all_eq_true.mp good_all p h) (List.all_eq_true.mp rt_all p h)
theorem prm71 : Prm 71 := prm_mk good71 rt71
theorem Prm.rootB {p g : Nat} (P : Prm p) (h1 : 1 ≤ g) (h2 : g < p) : rootB p g = decide (plen p g = p - 1) := rt_of P.rt h1 h2
theorem Root.rootB {p g : Nat} (R : Root p g) (P : Prm p) : AD.rootB p g = true := by
  rw [P.rootB R.one R.lt]
  exact decide_eq_true R.len
theorem Prm.lroot {p : Nat} (P : Prm p) : AD.rootB p (lr p) = true := P.root.rootB P
theorem Prm.lnot {p g : Nat} (P : Prm p) (h1 : 1 ≤ g) (h2 : g < lr p) : AD.rootB p g = false := by
  have h3 := P.root.lt
  rw [P.rootB h1 (by omega)]
  exact decide_eq_false (P.least g h1 h2)
end AD
namespace AD
/-! ### a plan's rows -/
/-- what is left of a beginning -/
def be (p : Nat) (b : Int) : Nat := (b % ((p : Int) - 1)).toNat
/-- one more than the row of a column -/
def rowA (p g : Nat) (b : Int) (c : Nat) : Nat := g ^ (be p b + c) % p
theorem be_cast {p : Nat} (hp : 3 ≤ p) (b : Int) : ((be p b : Nat) : Int) = b % ((p : Int) - 1) := by
  unfold be
  exact Int.toNat_of_nonneg (Int.emod_nonneg _ (by omega))
theorem be_lt {p : Nat} (hp : 3 ≤ p) (b : Int) : be p b < p - 1 := by
  have h := be_cast hp b
  have h2 := Int.emod_lt_of_pos b (show (0 : Int) < (p : Int) - 1 by omega)
  omega
theorem be_add {p : Nat} (hp : 3 ≤ p) (b : Int) (c : Nat) : be p (b + c) = (be p b + c) % (p - 1) := by
  have h := be_cast hp (b + c)
  have h2 := be_cast hp b
  have e : ((p - 1 : Nat) : Int) = (p : Int) - 1 := by omega
  have h3 : (((be p b + c) % (p - 1) : Nat) : Int) = (b + c) % ((p : Int) - 1) := by
    rw [Int.natCast_emod, e, Int.natCast_add, h2, Int.emod_add_emod]
  omega
theorem be_per {p : Nat} (b : Int) : be p (b + p - 1) = be p b := by
  unfold be
  rw [show b + (p : Int) - 1 = b + ((p : Int) - 1) by omega, Int.add_emod_right]
theorem Root.row_be {p g : Nat} (R : Root p g) (b : Int) (c : Nat) : g ^ be p (b + c) % p = rowA p g b c := by
  rw [be_add R.good.lo, R.per]
  rfl
theorem Root.row_pos {p g : Nat} (R : Root p g) (b : Int) (c : Nat) : 1 ≤ rowA p g b c := R.good.pow_pos R.ne _
theorem Root.row_lt {p g : Nat} (R : Root p g) (b : Int) (c : Nat) : rowA p g b c < p := Nat.mod_lt _ (by have := R.good.lo; omega)
theorem rowA_per {p g : Nat} (b : Int) (c : Nat) : rowA p g (b + p - 1) c = rowA p g b c := by
  unfold rowA
  rw [be_per]
theorem Root.row_next {p g : Nat} (R : Root p g) (b : Int) {c : Nat} (h : 1 ≤ c) : rowA p g (b + 1) (c - 1) = rowA p g b c := by
  rw [← R.row_be, ← R.row_be]
  rw [show b + 1 + ((c - 1 : Nat) : Int) = b + (c : Int) by omega]
theorem Root.row_inj {p g c d : Nat} {b : Int} (R : Root p g) (hc : c < p - 1) (hd : d < p - 1) (e : rowA p g b c = rowA p g b d) : c = d := by
  have h := R.injm e
  have lo := R.good.lo
  rcases Nat.lt_trichotomy c d with z | z | z
  · exact absurd (by rw [Nat.add_assoc, show c + (d - c) = d by omega]; exact e) (R.inj0 (i := be p b + c) (d := d - c) (by omega) (by omega))
  · exact z
  · exact absurd (by rw [Nat.add_assoc, show d + (c - d) = c by omega]; exact e.symm) (R.inj0 (i := be p b + d) (d := c - d) (by omega) (by omega))
/-- each row has its column -/
theorem Root.row_onto {p g x : Nat} (R : Root p g) (b : Int) (h1 : 1 ≤ x) (h2 : x < p) : ∃ c, c < p - 1 ∧ rowA p g b c = x := by
  obtain ⟨k, hk, e⟩ := R.onto h1 h2
  have lo := R.good.lo
  have hb := be_lt lo b
  refine ⟨(k + (p - 1) - be p b) % (p - 1), Nat.mod_lt _ (by omega), ?_⟩
  unfold rowA
  rw [← R.per (be p b + _), Nat.add_mod_mod, show be p b + (k + (p - 1) - be p b) = k + (p - 1) by omega, Nat.add_mod_right, R.per]
  exact e
/-- the rows, each once -/
def rowsN (p g : Nat) (b : Int) : List Nat := (List.range (p - 1)).map fun c => rowA p g b c - 1
def rowsI (p g : Nat) (b : Int) : List Int := (List.range (p - 1)).map fun c => ((rowA p g b c : Nat) : Int) - 1
theorem rowsI_len (p g : Nat) (b : Int) : (rowsI p g b).length = p - 1 := by unfold rowsI; rw [List.length_map, List.length_range]
theorem rowsI_at {p g c : Nat} {b : Int} (h : c < p - 1) : (rowsI p g b)[c]? = some (((rowA p g b c : Nat) : Int) - 1) := by
  unfold rowsI
  rw [List.getElem?_map, List.getElem?_range h]
  rfl
theorem Root.rows_nodup {p g : Nat} (R : Root p g) (b : Int) : (rowsN p g b).Nodup := map_nodup List.nodup_range fun i hi j hj e => by
  have a := R.row_pos b i
  have c := R.row_pos b j
  exact R.row_inj (b := b) (List.mem_range.mp hi) (List.mem_range.mp hj) (by omega)
/-- a list of n numbers below n, each once, is the first n in some order -/
theorem perm_range : ∀ (n : Nat) (l : List Nat), l.Nodup → (∀ x ∈ l, x < n) → l.length = n → l.Perm (List.range n)
  | n, l, h1, h2, h3 => by
    refine (List.perm_ext_iff_of_nodup h1 List.nodup_range).mpr fun x => ⟨fun h => List.mem_range.mpr (h2 x h), fun h => nodup_full h1 h2 h3 (List.mem_range.mp h)⟩
theorem Root.rows_perm {p g : Nat} (R : Root p g) (b : Int) : (rowsN p g b).Perm (List.range (p - 1)) := by
  refine perm_range _ _ (R.rows_nodup b) (fun x hx => ?_) (by unfold rowsN; rw [List.length_map, List.length_range])
  obtain ⟨c, hc, e⟩ := List.mem_map.mp hx
  have h1 := R.row_pos b c
  have h2 := R.row_lt b c
  omega
theorem Root.rowsI_eq {p g : Nat} (R : Root p g) (b : Int) : rowsI p g b = (rowsN p g b).map fun n : Nat => (n : Int) := by
  unfold rowsI rowsN
  rw [List.map_map]
  refine List.map_congr_left fun c _ => ?_
  have h := R.row_pos b c
  show ((rowA p g b c : Nat) : Int) - 1 = ((rowA p g b c - 1 : Nat) : Int)
  omega
/-- sorted numbers in one order only -/
theorem sorted_unique : ∀ {l m : List Int}, l.Perm m → l.Pairwise (· ≤ ·) → m.Pairwise (· ≤ ·) → l = m := fun h1 h2 h3 =>
  h1.eq_of_pairwise (fun a b _ _ hab hba => Int.le_antisymm hab hba) h2 h3
theorem range_sorted (n : Nat) : ((List.range n).map fun i : Nat => (i : Int)).Pairwise (· ≤ ·) := by
  rw [List.pairwise_map]
  refine List.Pairwise.imp (fun h => ?_) List.pairwise_lt_range
  omega
/-- a turn of the first n numbers, sorted -/
theorem sorted_range {l : List Int} {m : List Nat} {n : Nat} (h1 : l.Perm (m.map fun i : Nat => (i : Int))) (h2 : m.Perm (List.range n)) (h3 : l.Pairwise (· ≤ ·)) : l = (List.range n).map fun i : Nat => (i : Int) :=
  sorted_unique (h1.trans (h2.map _)) h3 (range_sorted n)
end AD
namespace AD
theorem root1999 : Root 1999 3 := ⟨good_of (by decide +kernel), by decide, by decide, by decide +kernel⟩
theorem rb1999 : rootB 1999 3 = true := by decide +kernel
theorem root_lr {p g : Nat} (P : Prm p) (h : lr p = g) : Root p g := by
  rw [← h]
  exact P.root
theorem root73 : Root 7 3 := root_lr (prm_in (by decide)) (by decide +kernel)
theorem root32 : Root 3 2 := root_lr (prm_in (by decide)) (by decide +kernel)
end AD
namespace AD
/-! ### arrows counted around -/
theorem modsub {p a b : Nat} : ((a : Int) - (b : Int)) % (p : Int) = 0 ↔ a % p = b % p := by
  rw [← Int.emod_eq_emod_iff_emod_sub_eq_zero]
  constructor
  · intro h
    have h2 : ((a % p : Nat) : Int) = ((b % p : Nat) : Int) := by rw [Int.natCast_emod, Int.natCast_emod, h]
    exact Int.ofNat_inj.mp h2
  · intro h
    rw [← Int.natCast_emod, ← Int.natCast_emod, h]
theorem add_cancel_mod {p a b : Nat} (x : Nat) : (a + x) % p = (b + x) % p ↔ a % p = b % p := by
  rw [← modsub, ← modsub]
  rw [show (((a + x : Nat) : Int) - ((b + x : Nat) : Int)) = (a : Int) - (b : Int) by omega]
/-- what is to be the power of the column that is told -/
def tgt (p g d u : Nat) : Nat := u * ((g ^ d % p - 1) ^ (p - 2) % p) % p
theorem Root.apart_ne {p g d : Nat} (R : Root p g) (h1 : 1 ≤ d) (h2 : d ≤ p - 2) : (g ^ d % p - 1) % p ≠ 0 := by
  have lo := R.good.lo
  have a := R.good.pow_pos R.ne d
  have b := Nat.mod_lt (g ^ d) (show p > 0 by omega)
  have c : g ^ d % p ≠ 1 := (plen_spec p g (by omega)).2.2.1 d h1 (by rw [R.len]; omega)
  rw [Nat.mod_eq_of_lt (by omega)]
  omega
theorem Root.tgt_lt {p g d u : Nat} (R : Root p g) : tgt p g d u < p := Nat.mod_lt _ (by have := R.good.lo; omega)
theorem Root.tgt_pos {p g d u : Nat} (R : Root p g) (h1 : 1 ≤ d) (h2 : d ≤ p - 2) (u1 : 1 ≤ u) (u2 : u < p) : 1 ≤ tgt p g d u := by
  have lo := R.good.lo
  have a := R.apart_ne h1 h2
  have b : u % p ≠ 0 := by rw [Nat.mod_eq_of_lt u2]; omega
  refine Nat.pos_of_ne_zero ?_
  unfold tgt
  rw [Nat.mul_mod_mod]
  exact R.good.mul_ne b (R.good.pow_ne a _)
theorem Root.row_add {p g : Nat} (b : Int) (c d : Nat) : rowA p g b (c + d) = rowA p g b c * (g ^ d % p) % p := by
  unfold rowA
  rw [← Nat.add_assoc, Nat.pow_add, Nat.mul_mod]
theorem Root.row_mod {p g : Nat} (R : Root p g) (b : Int) (c : Nat) : rowA p g b (c % (p - 1)) = rowA p g b c := by
  unfold rowA
  rw [← R.per, Nat.add_mod_mod, R.per]
/-- the dot so far across is so far up, just at the column that is told -/
theorem Root.hit {p g d u c : Nat} {b : Int} (R : Root p g) (h1 : 1 ≤ d) (h2 : d ≤ p - 2) :
    ((((rowA p g b ((c + d) % (p - 1)) : Nat) : Int) - 1) - (((rowA p g b c : Nat) : Int) - 1) - (u : Int)) % (p : Int) = 0 ↔ rowA p g b c = tgt p g d u := by
  have lo := R.good.lo
  have a := R.apart_ne h1 h2
  have x1 := R.row_pos b c
  have x2 := R.row_lt b c
  rw [R.row_mod, Root.row_add]
  have hA := R.good.pow_pos R.ne d
  have eA : g ^ d % p = (g ^ d % p - 1) + 1 := by omega
  generalize hap : g ^ d % p - 1 = ap at *
  generalize hx : rowA p g b c = x at *
  have e1 : (((x * (g ^ d % p) % p : Nat) : Int) - 1) - ((x : Int) - 1) - (u : Int) = ((x * (g ^ d % p) % p : Nat) : Int) - ((u + x : Nat) : Int) := by omega
  rw [e1, modsub, Nat.mod_mod, eA, Nat.mul_add, Nat.mul_one, add_cancel_mod]
  have hi := R.good.inv a
  have e2 : tgt p g d u = u * (ap ^ (p - 2)) % p := by
    unfold tgt
    rw [hap, Nat.mul_mod_mod]
  rw [e2]
  constructor
  · intro h
    have h3 := mul_right_mod (ap ^ (p - 2)) h
    rw [Nat.mul_assoc, Nat.mul_comm ap, Nat.mul_mod, hi, Nat.mul_one, Nat.mod_mod, Nat.mod_eq_of_lt x2] at h3
    exact h3
  · intro h
    rw [h, Nat.mod_mul_mod, Nat.mul_assoc, Nat.mul_mod, hi, Nat.mul_one, Nat.mod_mod]
/-- the told column -/
theorem Root.hit_col {p g d u c c0 : Nat} {b : Int} (R : Root p g) (h1 : 1 ≤ d) (h2 : d ≤ p - 2) (hc : c < p - 1) (h0 : c0 < p - 1) (e : rowA p g b c0 = tgt p g d u) :
    ((((rowA p g b ((c + d) % (p - 1)) : Nat) : Int) - 1) - (((rowA p g b c : Nat) : Int) - 1) - (u : Int)) % (p : Int) = 0 ↔ c = c0 := by
  rw [R.hit h1 h2, ← e]
  exact ⟨fun h => R.row_inj hc h0 h, fun h => by rw [h]⟩
end AD
namespace Lw
open PySem PySem.Spec PyProof.Rows L2 AD
def topS (i : Nat) : Stmt := PySem.Challenge.pw_arrowdots_k03_whole_arrows.main.body.getD i (.Pass ⟨0, 0, 0, 0⟩)
abbrev s_is_whole : Stmt := topS 8
abbrev s_is_prime : Stmt := topS 9
abbrev s_asked_prime : Stmt := topS 10
abbrev s_power : Stmt := topS 11
abbrev s_root_of : Stmt := topS 12
abbrev s_asked_root : Stmt := topS 13
abbrev s_asked_plan : Stmt := topS 15
abbrev s_found_column : Stmt := topS 16
abbrev s_arrow_of : Stmt := topS 17
abbrev s__law_number : Stmt := topS 19
abbrev s__law_prime : Stmt := topS 20
abbrev s__law_powers : Stmt := topS 21
abbrev s__law_root : Stmt := topS 22
abbrev s__law_plan : Stmt := topS 23
abbrev s__law_rows : Stmt := topS 24
abbrev s__law_right : Stmt := topS 25
abbrev s_law : Stmt := topS 26
theorem sc_is_whole : FnScope ["thing"] ["thing"] (defScope s_is_whole) :=
  ⟨rfl, rfl, rfl, by decide +kernel, rfl, by decide +kernel, by decide +kernel⟩
theorem sc_is_prime : FnScope ["number", "at"] ["number"] (defScope s_is_prime) :=
  ⟨rfl, rfl, rfl, by decide +kernel, rfl, by decide +kernel, by decide +kernel⟩
theorem sc_asked_prime : FnScope ["prime", "most"] ["prime", "most"] (defScope s_asked_prime) :=
  ⟨rfl, rfl, rfl, by decide +kernel, rfl, by decide +kernel, by decide +kernel⟩
theorem sc_power : FnScope ["number", "times", "prime", "found"] ["number", "times", "prime"] (defScope s_power) :=
  ⟨rfl, rfl, rfl, by decide +kernel, rfl, by decide +kernel, by decide +kernel⟩
theorem sc_root_of : FnScope ["prime", "number", "many", "left", "at"] ["prime", "number"] (defScope s_root_of) :=
  ⟨rfl, rfl, rfl, by decide +kernel, rfl, by decide +kernel, by decide +kernel⟩
theorem sc_asked_root : FnScope ["prime", "root"] ["prime", "root"] (defScope s_asked_root) :=
  ⟨rfl, rfl, rfl, by decide +kernel, rfl, by decide +kernel, by decide +kernel⟩
theorem sc_asked_plan : FnScope ["prime", "root", "begin", "most"] ["prime", "root", "begin", "most"] (defScope s_asked_plan) :=
  ⟨rfl, rfl, rfl, by decide +kernel, rfl, by decide +kernel, by decide +kernel⟩
theorem sc_found_column : FnScope ["prime", "root", "begin", "row", "at", "column"] ["prime", "root", "begin", "row"] (defScope s_found_column) :=
  ⟨rfl, rfl, rfl, by decide +kernel, rfl, by decide +kernel, by decide +kernel⟩
theorem sc_arrow_of : FnScope ["prime", "root", "begin", "across", "up", "apart"] ["prime", "root", "begin", "across", "up"] (defScope s_arrow_of) :=
  ⟨rfl, rfl, rfl, by decide +kernel, rfl, by decide +kernel, by decide +kernel⟩
theorem sc__law_number : FnScope ["_law_cell", "_law_at", "_law_whole", "_law_mixed", "_law_more"] ["_law_cell", "_law_at", "_law_whole"] (defScope s__law_number) :=
  ⟨rfl, rfl, rfl, by decide +kernel, rfl, by decide +kernel, by decide +kernel⟩
theorem sc__law_prime : FnScope ["_law_number_here", "_law_small"] ["_law_number_here"] (defScope s__law_prime) :=
  ⟨rfl, rfl, rfl, by decide +kernel, rfl, by decide +kernel, by decide +kernel⟩
theorem sc__law_powers : FnScope ["_law_prime_here", "_law_number_here", "_law_found"] ["_law_prime_here", "_law_number_here"] (defScope s__law_powers) :=
  ⟨rfl, rfl, rfl, by decide +kernel, rfl, by decide +kernel, by decide +kernel⟩
theorem sc__law_root : FnScope ["_law_prime_here", "_law_number_here", "_law_at"] ["_law_prime_here", "_law_number_here"] (defScope s__law_root) :=
  ⟨rfl, rfl, rfl, by decide +kernel, rfl, by decide +kernel, by decide +kernel⟩
theorem sc__law_plan : FnScope ["_law_script", "_law_by", "_law_cells", "_law_number_here", "_law_prime_here", "_law_begin"] ["_law_script", "_law_by"] (defScope s__law_plan) :=
  ⟨rfl, rfl, rfl, by decide +kernel, rfl, by decide +kernel, by decide +kernel⟩
theorem sc__law_rows : FnScope ["_law_prime_here", "_law_root_here", "_law_begin", "_law_at", "_law_turn", "_law_found", "_law_column"] ["_law_prime_here", "_law_root_here", "_law_begin"] (defScope s__law_rows) :=
  ⟨rfl, rfl, rfl, by decide +kernel, rfl, by decide +kernel, by decide +kernel⟩
theorem sc__law_right : FnScope ["_law_prime_here", "_law_root_here", "_law_begin", "_law_rows_here", "_law_across", "_law_up", "_law_column", "_law_some", "_law_tried", "_law_at", "_law_there"] ["_law_prime_here", "_law_root_here", "_law_begin", "_law_rows_here", "_law_across", "_law_up"] (defScope s__law_right) :=
  ⟨rfl, rfl, rfl, by decide +kernel, rfl, by decide +kernel, by decide +kernel⟩
theorem sc_law : FnScope ["_law_script", "_law_by", "_law_prime_here", "_law_root_here", "_law_begin", "_law_rows_here", "_law_number_here", "_law_drawn", "_law_pairs", "_law_across", "_law_up"] ["_law_script"] (defScope s_law) :=
  ⟨rfl, rfl, rfl, by decide +kernel, rfl, by decide +kernel, by decide +kernel⟩
/-- what stands behind the top: the names left to Python, the constants, the defs -/
structure Txt (K : PySem.W.Frag) (mg : Str → Option Value) (fa : Nat → Addr) (fd : Nat → FuncData) (tk : Nat → Tok) : Prop where
  m_ValueError : mg "ValueError" = none
  m_abs : mg "abs" = none
  m_bool : mg "bool" = none
  m_int : mg "int" = none
  m_isinstance : mg "isinstance" = none
  m_len : mg "len" = none
  m_list : mg "list" = none
  m_range : mg "range" = none
  m_sum : mg "sum" = none
  g_MOST : mg "MOST" = some (.int 2000 (tk 0))
  g_is_whole : mg "is_whole" = some (.ref (fa 0))
  F_is_whole : Fun K "is_whole" "is_whole" s_is_whole (fa 0) (fd 0)
  b_is_whole : Binds K (fd 0) ["thing"] []
  g_is_prime : mg "is_prime" = some (.ref (fa 1))
  F_is_prime : Fun K "is_prime" "is_prime" s_is_prime (fa 1) (fd 1)
  b_is_prime : Binds K (fd 1) ["number"] []
  g_asked_prime : mg "asked_prime" = some (.ref (fa 2))
  F_asked_prime : Fun K "asked_prime" "asked_prime" s_asked_prime (fa 2) (fd 2)
  b_asked_prime : Binds K (fd 2) ["prime", "most"] []
  g_power : mg "power" = some (.ref (fa 3))
  F_power : Fun K "power" "power" s_power (fa 3) (fd 3)
  b_power : Binds K (fd 3) ["number", "times", "prime"] []
  g_root_of : mg "root_of" = some (.ref (fa 4))
  F_root_of : Fun K "root_of" "root_of" s_root_of (fa 4) (fd 4)
  b_root_of : Binds K (fd 4) ["prime", "number"] []
  g_asked_root : mg "asked_root" = some (.ref (fa 5))
  F_asked_root : Fun K "asked_root" "asked_root" s_asked_root (fa 5) (fd 5)
  b_asked_root : Binds K (fd 5) ["prime", "root"] []
  g_asked_plan : mg "asked_plan" = some (.ref (fa 6))
  F_asked_plan : Fun K "asked_plan" "asked_plan" s_asked_plan (fa 6) (fd 6)
  b_asked_plan : Binds K (fd 6) ["prime", "root", "begin", "most"] []
  g_found_column : mg "found_column" = some (.ref (fa 7))
  F_found_column : Fun K "found_column" "found_column" s_found_column (fa 7) (fd 7)
  b_found_column : Binds K (fd 7) ["prime", "root", "begin", "row"] []
  g_arrow_of : mg "arrow_of" = some (.ref (fa 8))
  F_arrow_of : Fun K "arrow_of" "arrow_of" s_arrow_of (fa 8) (fd 8)
  b_arrow_of : Binds K (fd 8) ["prime", "root", "begin", "across", "up"] []
  g__law_number : mg "_law_number" = some (.ref (fa 9))
  F__law_number : Fun K "_law_number" "_law_number" s__law_number (fa 9) (fd 9)
  b__law_number : Binds K (fd 9) ["_law_cell", "_law_at", "_law_whole"] []
  g__law_prime : mg "_law_prime" = some (.ref (fa 10))
  F__law_prime : Fun K "_law_prime" "_law_prime" s__law_prime (fa 10) (fd 10)
  b__law_prime : Binds K (fd 10) ["_law_number_here"] []
  g__law_powers : mg "_law_powers" = some (.ref (fa 11))
  F__law_powers : Fun K "_law_powers" "_law_powers" s__law_powers (fa 11) (fd 11)
  b__law_powers : Binds K (fd 11) ["_law_prime_here", "_law_number_here"] []
  g__law_root : mg "_law_root" = some (.ref (fa 12))
  F__law_root : Fun K "_law_root" "_law_root" s__law_root (fa 12) (fd 12)
  b__law_root : Binds K (fd 12) ["_law_prime_here", "_law_number_here"] []
  g__law_plan : mg "_law_plan" = some (.ref (fa 13))
  F__law_plan : Fun K "_law_plan" "_law_plan" s__law_plan (fa 13) (fd 13)
  b__law_plan : Binds K (fd 13) ["_law_script", "_law_by"] []
  g__law_rows : mg "_law_rows" = some (.ref (fa 14))
  F__law_rows : Fun K "_law_rows" "_law_rows" s__law_rows (fa 14) (fd 14)
  b__law_rows : Binds K (fd 14) ["_law_prime_here", "_law_root_here", "_law_begin"] []
  g__law_right : mg "_law_right" = some (.ref (fa 15))
  F__law_right : Fun K "_law_right" "_law_right" s__law_right (fa 15) (fd 15)
  b__law_right : Binds K (fd 15) ["_law_prime_here", "_law_root_here", "_law_begin", "_law_rows_here", "_law_across", "_law_up"] []
  g_law : mg "law" = some (.ref (fa 16))
  F_law : Fun K "law" "law" s_law (fa 16) (fd 16)
  b_law : Binds K (fd 16) ["_law_script"] []
section
variable {P : Program} {w : World} {K : PySem.W.Frag} {mg : Str → Option Value} {base : Heap}
variable {fa : Nat → Addr} {fd : Nat → FuncData} {tk : Nat → Tok}
end
end Lw
namespace Lw
open PySem PySem.Spec PyProof.Rows L2 AD
section
variable {P : Program} {w : World} {K : PySem.W.Frag} {mg : Str → Option Value} {base : Heap}
variable {fa : Nat → Addr} {fd : Nat → FuncData} {tk : Nat → Tok}
/-! ### small things -/
theorem op_mulB {X : Cx} : OpR X (binaryOp .Mult) (rI IntMulOk fun i j => .int (i * j)) :=
  opI fun _ _ _ _ _ _ _ hc q => mul_int q hc
theorem mulL {i j : Int} (h1 : -(2 ^ 64) < i) (h2 : i < 2 ^ 64) : IntMulOk i j := .of_left (intBits_le_64 h1 h2)
theorem mulR {i j : Int} (h1 : -(2 ^ 64) < j) (h2 : j < 2 ^ 64) : IntMulOk i j := .of_right (intBits_le_64 h1 h2)
theorem same_upd {H : Hp} {p : Addr} {o : HO} (h : H p = none) : Same H (upd H p o) := fun b x e => by
  rw [upd_ne (ne_of_none e h)]
  exact e
theorem dec_vint {i j : Int} : (decide (V.int i = V.int j) = true) = (i = j) := by
  apply propext
  rw [decide_eq_true_iff]
  exact ⟨fun e => V.int.inj e, fun e => by rw [e]⟩
theorem dF {c : Prop} [Decidable c] (e : ¬ (decide c = true)) : ¬ c := fun h => e (decide_eq_true h)
theorem dT {c : Prop} [Decidable c] (e : decide c = true) : c := of_decide_eq_true e
theorem z2 : (0 : Int) < 2 := by decide
theorem dp_ints {K : PySem.W.Frag} {H : Hp} : ∀ ns : List Int, DpAll K H (ns.map V.int) (ns.map PyData.int)
  | [] => .nil
  | n :: r => .cons (.int n) (dp_ints r)
theorem dp_list {K : PySem.W.Frag} {H : Hp} {a : Addr} {ns : List Int} (h : SqL K H a (ns.map V.int)) : Dp K H (.ref a) (.list (ns.map PyData.int)) := .lst h (dp_ints ns)
theorem eqv_ints : ∀ ns ms : List Int, PyData.eqvAll (ns.map PyData.int) (ms.map PyData.int) = decide (ns = ms)
  | [], [] => rfl
  | [], _ :: _ => rfl
  | _ :: _, [] => rfl
  | n :: r, m :: q => by
    rw [List.map_cons, List.map_cons, PyData.eqvAll, eqv_ints r q, PyData.eqv]
    by_cases e : n = m
    · subst e
      by_cases z : r = q
      · subst z; simp
      · simp [z]
    · simp [e]
theorem canLay_ints : ∀ ns : List Int, PyData.canLayAll0 (ns.map PyData.int) = true
  | [] => rfl
  | n :: r => by
    rw [List.map_cons, PyData.canLayAll0, canLay_ints r]
    rfl
theorem depth_ints : ∀ ns : List Int, PyData.depthAll (ns.map PyData.int) ≤ 1
  | [] => by decide
  | n :: r => by
    have h := depth_ints r
    rw [List.map_cons, PyData.depthAll]
    exact Nat.max_le.mpr ⟨by simp [PyData.depth], h⟩
theorem shaped_list (ns : List Int) : SeqAt.shaped (.list (ns.map PyData.int)) = true := by
  have h := depth_ints ns
  unfold SeqAt.shaped
  rw [PyData.canLay0, canLay_ints, PyData.depth, decide_eq_true (show PyData.depthAll (ns.map PyData.int) + 1 ≤ 64 by omega)]
  rfl
/-- two lists of ints -/
def rEqL (K : PySem.W.Frag) : R2 := fun x y H Q => ∃ (a b : Addr) (ns ms : List Int), x = .ref a ∧ y = .ref b ∧ SqL K H a (ns.map V.int) ∧ SqL K H b (ms.map V.int) ∧ Q (.bl (decide (ns = ms))) H
def rNeL (K : PySem.W.Frag) : R2 := fun x y H Q => ∃ (a b : Addr) (ns ms : List Int), x = .ref a ∧ y = .ref b ∧ SqL K H a (ns.map V.int) ∧ SqL K H b (ms.map V.int) ∧ Q (.bl (!decide (ns = ms))) H
theorem op_eqL {X : Cx} (hu : X.A.units + 64 < cLine) : OpR X (compareOp .Eq) (rEqL X.K) := by
  intro pins s σ H x y u v Q I rx ry h
  obtain ⟨a, b, ns, ms, rfl, rfl, ha, hb, q⟩ := h
  exact op_eqD hu pins s σ H _ _ u v Q I rx ry ⟨_, _, dp_list ha, dp_list hb, shaped_list ns, shaped_list ms, by rw [PyData.eqv, eqv_ints]; exact q⟩
theorem op_neL {X : Cx} (hu : X.A.units + 64 < cLine) : OpR X (compareOp .NotEq) (rNeL X.K) := by
  intro pins s σ H x y u v Q I rx ry h
  obtain ⟨a, b, ns, ms, rfl, rfl, ha, hb, q⟩ := h
  exact op_neD hu pins s σ H _ _ u v Q I rx ry ⟨_, _, dp_list ha, dp_list hb, shaped_list ns, shaped_list ms, by rw [PyData.eqv, eqv_ints]; exact q⟩
theorem cutV_mem {xs : List V} {lo hi : Option Int} {v : V} (h : v ∈ cutV xs lo hi) : v ∈ xs := by
  unfold cutV at h
  exact List.mem_of_mem_drop (List.mem_of_mem_take h)
/-- the first k of a list of ints -/
theorem cutV_to (ns : List Int) (k : Nat) : cutV (ns.map V.int) none (some (k : Int)) = (ns.take k).map V.int := by
  unfold cutV
  rw [HT.sIx_none, HT.sIx_nat, List.drop_zero, Nat.sub_zero, List.length_map, ← List.map_take, ← List.take_eq_take_min]
end
end Lw
namespace Lw
open PySem PySem.Spec PyProof.Rows L2 AD
section
variable {P : Program} {w : World} {K : PySem.W.Frag} {mg : Str → Option Value} {base : Heap}
variable {fa : Nat → Addr} {fd : Nat → FuncData} {tk : Nat → Tok}
/-! ### power -/
def spPower : Sp := fun vs H Q _ => ∃ a t p : Nat, vs = [.int a, .int t, .int p] ∧ 2 ≤ p ∧ p ≤ 2000 ∧ a ≤ 2000 ∧ Q (.int ((a ^ t % p : Nat) : Int)) H
theorem pow_step0 {p f a t : Nat} (h : t % 2 = 0) : f * (a * a % p) ^ (t / 2) % p = f * a ^ t % p := by
  have e : t = 2 * (t / 2) := by omega
  conv => rhs; rw [e, Nat.pow_mul, Nat.pow_two, Nat.mul_mod, Nat.pow_mod, ← Nat.mul_mod]
theorem pow_step1 {p f a t : Nat} (h : t % 2 = 1) : (f * a % p) * (a * a % p) ^ (t / 2) % p = f * a ^ t % p := by
  have e : t = 2 * (t / 2) + 1 := by omega
  conv => rhs; rw [e, Nat.pow_succ, Nat.pow_mul, Nat.pow_two, Nat.mul_comm _ a, ← Nat.mul_assoc, Nat.mul_mod, Nat.pow_mod, ← Nat.mul_mod]
  rw [Nat.mul_mod, Nat.pow_mod, Nat.mod_mod, Nat.mod_mod, ← Nat.mul_mod]
theorem ok_power (T : Txt K mg fa fd tk) : FnOk P w K mg base CX0 1 (fa 3) (fd 3) ["number", "times", "prime"] spPower := by
  refine T.F_power.ok sc_power (fun vs H Q E h => ?_) (fun cdv A outer s H vs Q E hr h => ?_)
  · obtain ⟨a, t, p, rfl, _⟩ := h
    rfl
  · obtain ⟨a, t, p, rfl, hp, hp2, ha, q⟩ := h
    refine ⟨_, (pss_cons (ps_set (i := 3) sc_power.nd rfl (.inl rfl) pe_int)
      (pss_cons (ps_while PassesOwn.never (pt_cmpR op_gt (pv 1) pe_int (nomark _)) (pss_cons (ps_if (pt_cmpR op_eq (pe_op op_mod (pv 1) pe_int) pe_int (nomark _)) (pss_one (ps_set (i := 3) sc_power.nd rfl (.inl rfl) (pe_op op_mod (pe_op op_mulB (pv 3) (pv 0)) (pv 2)))) pss_nil)
      (pss_cons (ps_set (i := 0) sc_power.nd rfl (.inl rfl) (pe_op op_mod (pe_op op_mulB (pv 0) (pv 0)) (pv 2)))
      (pss_one (ps_set (i := 1) sc_power.nd rfl (.inl rfl) (pe_op op_fdiv (pv 1) pe_int))))))
      (pss_one (ps_ret (pv 3))))), ?_⟩
    refine ⟨fun m σ H' => H' = H ∧ ∃ a' f' : Nat, σ = [some (.int a'), some (.int m), some (.int p), some (.int f')] ∧ a' ≤ 2000 ∧ f' < p ∧ f' * a' ^ m % p = a ^ t % p, ⟨t, rfl, a, 1, rfl, ha, by omega, by rw [Nat.one_mul]⟩, fun m σ H' hW => ?_⟩
    obtain ⟨rfl, a', f', rfl, ha', hf', he⟩ := hW
    refine ⟨_, rfl, _, _, rfl, rfl, _, rfl, ite2 (fun e => ?_) (fun e => ?_)⟩
    · have hm : 0 < m := by have := of_decide_eq_true e; omega
      refine ⟨fun σ' H'' => ∃ m', m' < m ∧ H'' = H' ∧ ∃ a' f' : Nat, σ' = [some (.int a'), some (.int m'), some (.int p), some (.int f')] ∧ a' ≤ 2000 ∧ f' < p ∧ f' * a' ^ m' % p = a ^ t % p, fun _ _ h => h, ?_⟩
      refine ⟨_, rfl, _, _, rfl, rfl, z2, rfl, _, rfl, ite2 (fun e2 => ?_) (fun e2 => ?_)⟩
      · rw [dec_vint] at e2
        refine ⟨_, rfl, _, rfl, _, _, rfl, rfl, mulL (by omega) (by omega), _, rfl, _, _, rfl, rfl, by omega, ?_⟩
        refine ⟨_, rfl, _, rfl, _, _, rfl, rfl, mulL (by omega) (by omega), _, rfl, _, _, rfl, rfl, by omega, ?_⟩
        refine ⟨_, rfl, _, _, rfl, rfl, ⟨by decide, by decide⟩, ?_⟩
        refine ⟨m / 2, by omega, rfl, a' * a' % p, f' * a' % p, ?_, ?_, ?_, ?_⟩
        · simp
        · have := Nat.mod_lt (a' * a') (show p > 0 by omega); omega
        · exact Nat.mod_lt _ (by omega)
        · rw [pow_step1 (by omega), he]
      · rw [dec_vint] at e2
        refine ⟨_, rfl, _, rfl, _, _, rfl, rfl, mulL (by omega) (by omega), _, rfl, _, _, rfl, rfl, by omega, ?_⟩
        refine ⟨_, rfl, _, _, rfl, rfl, ⟨by decide, by decide⟩, ?_⟩
        refine ⟨m / 2, by omega, rfl, a' * a' % p, f', ?_, ?_, hf', ?_⟩
        · simp
        · have := Nat.mod_lt (a' * a') (show p > 0 by omega); omega
        · rw [pow_step0 (by omega), he]
    · have hm : m = 0 := by
        have := dF e
        omega
      subst hm
      rw [Nat.pow_zero, Nat.mul_one, Nat.mod_eq_of_lt hf'] at he
      subst he
      exact ⟨_, rfl, q⟩
end
end Lw
namespace Lw
open PySem PySem.Spec PyProof.Rows L2 AD
section
variable {P : Program} {w : World} {K : PySem.W.Frag} {mg : Str → Option Value} {base : Heap}
variable {fa : Nat → Addr} {fd : Nat → FuncData} {tk : Nat → Tok}
/-! ### is_whole, is_prime, asked_prime -/
/-- an int, or a thing of these kinds that is none -/
def spWhole (K : PySem.W.Frag) : Sp := fun vs H Q _ => ∃ v, vs = [v] ∧ ((∃ i, v = .int i ∧ Q (.bl true) H) ∨ ∃ n, TyX K H v (.type n) ∧ n ∈ ["NoneType", "str", "list", "tuple", "dict", "bool"] ∧ Q (.bl false) H)
theorem ok_is_whole (T : Txt K mg fa fd tk) : FnOk P w K mg base CX0 1 (fa 0) (fd 0) ["thing"] (spWhole K) := by
  refine T.F_is_whole.ok sc_is_whole (fun vs H Q E h => ?_) (fun cdv A outer s H vs Q E hr h => ?_)
  · obtain ⟨v, rfl, _⟩ := h
    rfl
  · obtain ⟨v, rfl, h⟩ := h
    refine ⟨_, (pss_one (ps_ret (pe_and (pe_callB call_isi (by rfl) T.m_isinstance (by decide +kernel) (pa_cons (pv 0) (pa_cons (pe_bltn (v := .ty "int") (u := .type "int") (by rfl) T.m_int (by decide +kernel) rfl) pa_nil))) (pe_one (pe_not (pe_callB call_isi (by rfl) T.m_isinstance (by decide +kernel) (pa_cons (pv 0) (pa_cons (pe_bltn (v := .ty "bool") (u := .type "bool") (by rfl) T.m_bool (by decide +kernel) rfl) pa_nil)))))))), ?_⟩
    rcases h with ⟨i, rfl, q⟩ | ⟨n, ty, hn, q⟩
    · refine ⟨_, rfl, _, _, _, _, true, rfl, .ty _, .base (.int _), kit_ty (by decide +kernel), true, rfl, iteT ?_⟩
      exact ⟨_, rfl, _, _, _, _, false, rfl, .ty _, .base (.int _), kit_ty (by decide +kernel), false, rfl, q⟩
    · simp only [List.mem_cons, List.not_mem_nil, or_false] at hn
      rcases hn with rfl | rfl | rfl | rfl | rfl | rfl
      · exact ⟨_, rfl, _, _, _, _, false, rfl, .ty _, ty, kit_ty (by decide +kernel), false, rfl, iteF q⟩
      · exact ⟨_, rfl, _, _, _, _, false, rfl, .ty _, ty, kit_ty (by decide +kernel), false, rfl, iteF q⟩
      · exact ⟨_, rfl, _, _, _, _, false, rfl, .ty _, ty, kit_ty (by decide +kernel), false, rfl, iteF q⟩
      · exact ⟨_, rfl, _, _, _, _, false, rfl, .ty _, ty, kit_ty (by decide +kernel), false, rfl, iteF q⟩
      · exact ⟨_, rfl, _, _, _, _, false, rfl, .ty _, ty, kit_ty (by decide +kernel), false, rfl, iteF q⟩
      · refine ⟨_, rfl, _, _, _, _, true, rfl, .ty _, ty, kit_ty (by decide +kernel), true, rfl, iteT ?_⟩
        exact ⟨_, rfl, _, _, _, _, true, rfl, .ty _, ty, kit_ty (by decide +kernel), true, rfl, q⟩
def spIsPrime : Sp := fun vs H Q _ => ∃ n : Nat, vs = [.int n] ∧ 2 ≤ n ∧ n ≤ 2000 ∧ Q (.bl (primeB n)) H
theorem ok_is_prime (T : Txt K mg fa fd tk) : FnOk P w K mg base CX0 1 (fa 1) (fd 1) ["number"] spIsPrime := by
  refine T.F_is_prime.ok sc_is_prime (fun vs H Q E h => ?_) (fun cdv A outer s H vs Q E hr h => ?_)
  · obtain ⟨v, rfl, _⟩ := h
    rfl
  · obtain ⟨n, rfl, hn, hn2, q⟩ := h
    refine ⟨_, (pss_cons (ps_set (i := 1) sc_is_prime.nd rfl (.inl rfl) pe_int)
      (pss_cons (ps_while PassesOwn.never (pt_cmpR op_le (pe_op op_mulB (pv 1) (pv 1)) (pv 0) (nomark _)) (pss_cons (ps_if (pt_cmpR op_eq (pe_op op_mod (pv 0) (pv 1)) pe_int (nomark _)) (pss_one (ps_ret pe_bl)) pss_nil)
      (pss_one (ps_set (i := 1) sc_is_prime.nd rfl (.inl rfl) (pe_op op_add (pv 1) pe_int)))))
      (pss_one (ps_ret pe_bl)))), ?_⟩
    refine ⟨fun m σ H' => H' = H ∧ ∃ a : Nat, σ = [some (.int n), some (.int a)] ∧ 2 ≤ a ∧ m + a = n + 2 ∧ primeLoop n m a = primeB n, ⟨n, rfl, 2, rfl, by omega, by omega, rfl⟩, fun m σ H' hW => ?_⟩
    obtain ⟨rfl, a, rfl, ha, hm, he⟩ := hW
    have hml : IntMulOk (a : Int) a := mulL (by omega) (by omega)
    refine ⟨_, rfl, _, rfl, _, _, rfl, rfl, hml, _, rfl, _, _, rfl, rfl, _, rfl, ite2 (fun e => ?_) (fun e => ?_)⟩
    · have e1 : a * a ≤ n := by have h := dT e; exact_mod_cast h
      have e2 : a ≤ n := Nat.le_trans (Nat.le_mul_of_pos_left a (by omega)) e1
      obtain ⟨k, rfl⟩ : ∃ k, m = k + 1 := ⟨m - 1, by omega⟩
      unfold primeLoop at he
      rw [Nat.ble_eq_true_of_le e1] at he
      refine ⟨fun σ' H'' => ∃ m', m' < k + 1 ∧ H'' = H' ∧ ∃ a : Nat, σ' = [some (.int n), some (.int a)] ∧ 2 ≤ a ∧ m' + a = n + 2 ∧ primeLoop n m' a = primeB n, fun _ _ h => h, ?_⟩
      refine ⟨_, rfl, _, rfl, _, _, rfl, rfl, by omega, rfl, _, rfl, ite2 (fun e3 => ?_) (fun e3 => ?_)⟩
      · rw [dec_vint] at e3
        have e4 : n % a = 0 := by omega
        rw [e4] at he
        rw [← he] at q
        exact q
      · rw [dec_vint] at e3
        have e4 : ¬ n % a = 0 := by omega
        have e5 : Nat.beq (n % a) 0 = false := by
          cases z : Nat.beq (n % a) 0 with
          | false => rfl
          | true => exact absurd (Nat.eq_of_beq_eq_true z) e4
        rw [e5] at he
        exact ⟨_, rfl, _, _, rfl, rfl, k, by omega, rfl, a + 1, rfl, by omega, by omega, he⟩
    · have e1 : ¬ a * a ≤ n := by have h := dF e; exact_mod_cast h
      have e5 : Nat.ble (a * a) n = false := by
        cases z : Nat.ble (a * a) n with
        | false => rfl
        | true => exact absurd (Nat.le_of_ble_eq_true z) e1
      have e6 : primeB n = true := by
        cases m with
        | zero => exact he.symm
        | succ k =>
          unfold primeLoop at he
          rw [e5] at he
          exact he.symm
      rw [e6] at q
      exact q
/-- a prime that is due: nothing is raised -/
def spAskedPrime : Sp := fun vs H Q _ => ∃ p m : Nat, vs = [.int p, .int m] ∧ Good p ∧ p ≤ m ∧ Q .non H
theorem ok_asked_prime (T : Txt K mg fa fd tk) : FnOk P w K mg base CX0 2 (fa 2) (fd 2) ["prime", "most"] spAskedPrime := by
  refine T.F_asked_prime.ok sc_asked_prime (fun vs H Q E h => ?_) (fun cdv A outer s H vs Q E hr h => ?_)
  · obtain ⟨p, m, rfl, _⟩ := h
    rfl
  · obtain ⟨p, m, rfl, G, hm, q⟩ := h
    have lo := G.lo
    have hi := G.hi
    refine ⟨_, (pss_one (ps_if (PW.pt (pw_or (pt_not (pt_val (pe_call (ok_is_whole T) (hr.mono (by decide)) (by rfl) T.g_is_whole T.F_is_whole.kp T.b_is_whole .nil pass0 (pa_cons (pv 0) pa_nil)))) (pw_or (pt_not (pt_chain op_le op_le pe_int (pv 0) (pv 1))) (pw_or1 (pt_not (pt_val (pe_call (ok_is_prime T) (hr.mono (by decide)) (by rfl) T.g_is_prime T.F_is_prime.kp T.b_is_prime .nil pass0 (pa_cons (pv 0) pa_nil)))))))) (pss_one ps_never) pss_nil)), ?_⟩
    refine ⟨_, rfl, _, rfl, .inl ⟨_, rfl, _, rfl, iteF ?_⟩⟩
    refine ⟨_, rfl, _, _, rfl, rfl, _, rfl, ?_⟩
    rw [decide_eq_true (show (3 : Int) ≤ p by omega)]
    refine iteT ⟨_, rfl, _, _, rfl, rfl, _, rfl, ?_⟩
    rw [decide_eq_true (show (p : Int) ≤ m by omega)]
    refine iteF ⟨_, rfl, p, rfl, by omega, by omega, _, rfl, ?_⟩
    rw [G.pr]
    exact iteF q
end
end Lw
namespace Lw
open PySem PySem.Spec PyProof.Rows L2 AD
section
variable {P : Program} {w : World} {K : PySem.W.Frag} {mg : Str → Option Value} {base : Heap}
variable {fa : Nat → Addr} {fd : Nat → FuncData} {tk : Nat → Tok}
/-! ### root_of, is_root, least_root -/
theorem beqF {a b : Nat} (h : ¬ a = b) : Nat.beq a b = false := by
  cases z : Nat.beq a b with
  | false => rfl
  | true => exact absurd (Nat.eq_of_beq_eq_true z) h
theorem bleF {a b : Nat} (h : ¬ a ≤ b) : Nat.ble a b = false := by
  cases z : Nat.ble a b with
  | false => rfl
  | true => exact absurd (Nat.le_of_ble_eq_true z) h
/-- what is stripped off leaves a divisor -/
theorem stripN_dvd (a : Nat) : ∀ (f left : Nat), stripN a f left ∣ left
  | 0, left => Nat.dvd_refl _
  | f + 1, left => by
    unfold stripN
    cases z : Nat.beq (left % a) 0 with
    | false => exact Nat.dvd_refl _
    | true =>
      have e : left % a = 0 := Nat.eq_of_beq_eq_true z
      exact Nat.dvd_trans (stripN_dvd a f (left / a)) (Nat.div_dvd_of_dvd (Nat.dvd_of_mod_eq_zero e))
theorem stripN_end {a f left : Nat} (h : ¬ left % a = 0) : stripN a f left = left := by
  cases f with
  | zero => rfl
  | succ f => unfold stripN; rw [beqF h]
theorem stripN_step {a f left : Nat} (h : left % a = 0) : stripN a (f + 1) left = stripN a f (left / a) := by
  rw [stripN, h]
def spRootOf : Sp := fun vs H Q _ => ∃ p g : Nat, vs = [.int p, .int g] ∧ 3 ≤ p ∧ p ≤ 2000 ∧ g < p ∧ Q (.bl (rootB p g)) H
theorem ok_root_of (T : Txt K mg fa fd tk) : FnOk P w K mg base CX0 2 (fa 4) (fd 4) ["prime", "number"] spRootOf := by
  refine T.F_root_of.ok sc_root_of (fun vs H Q E h => ?_) (fun cdv A outer s H vs Q E hr h => ?_)
  · obtain ⟨p, g, rfl, _⟩ := h
    rfl
  · obtain ⟨p, g, rfl, hp, hp2, hg, q⟩ := h
    refine ⟨_, (pss_cons (ps_set (i := 2) sc_root_of.nd rfl (.inl rfl) (pe_op op_sub (pv 0) pe_int))
      (pss_cons (ps_par (i := 3) (j := 4) (by rfl) sc_root_of.nd rfl rfl (by decide) rfl rfl (pa_cons (pv 2) (pa_cons pe_int pa_nil)) (by rfl))
      (pss_cons (ps_while PassesOwn.never (pt_cmpR op_gt (pv 3) pe_int (nomark _)) (pss_cons (ps_if (pt_cmpR op_eq (pe_op op_mod (pv 3) (pv 4)) pe_int (nomark _)) (pss_cons (ps_if (pt_cmpR op_eq (pe_call (ok_power T) (hr.mono (by decide)) (by rfl) T.g_power T.F_power.kp T.b_power .nil pass0 (pa_cons (pv 1) (pa_cons (pe_op op_fdiv (pv 2) (pv 4)) (pa_cons (pv 0) pa_nil)))) pe_int (nomark _)) (pss_one (ps_ret pe_bl)) pss_nil)
      (pss_one (ps_while PassesOwn.never (pt_cmpR op_eq (pe_op op_mod (pv 3) (pv 4)) pe_int (nomark _)) (pss_one (ps_set (i := 3) sc_root_of.nd rfl (.inl rfl) (pe_op op_fdiv (pv 3) (pv 4))))))) pss_nil)
      (pss_one (ps_set (i := 4) sc_root_of.nd rfl (.inl rfl) (pe_op op_add (pv 4) pe_int)))))
      (pss_one (ps_ret pe_bl))))), ?_⟩
    refine ⟨_, rfl, _, _, rfl, rfl, ?_⟩
    refine ⟨_, rfl, _, _, rfl, ?_⟩
    let W : Nat → L2.St → Hp → Prop := fun m σ H' => H' = H ∧ ∃ l a : Nat, σ = [some (.int p), some (.int g), some (.int ((p : Int) - 1)), some (.int l), some (.int a)] ∧ 1 ≤ l ∧ l ≤ p - 1 ∧ 2 ≤ a ∧ a ≤ p ∧ (∀ d, 2 ≤ d → d < a → ¬ l % d = 0) ∧ m + a = p + 2 ∧ rootLoop p g m l a = rootB p g
    refine ⟨W, ⟨p, rfl, p - 1, 2, ?_, by omega, by omega, by omega, by omega, fun d h1 h2 => by omega, by omega, rfl⟩, fun m σ H' hW => ?_⟩
    · have e : ((p - 1 : Nat) : Int) = (p : Int) - 1 := by omega
      rw [e]
      rfl
    obtain ⟨rfl, l, a, rfl, hl, hl2, ha, hap, hd, hm, he⟩ := hW
    refine ⟨_, rfl, _, _, rfl, rfl, _, rfl, ite2 (fun e => ?_) (fun e => ?_)⟩
    · have e1 : 1 < l := by have h := dT e; omega
      have hal : a ≤ l := by
        rcases Nat.lt_or_ge l a with z | z
        · exact absurd (Nat.mod_self l) (hd l (by omega) z)
        · exact z
      obtain ⟨k, rfl⟩ : ∃ k, m = k + 1 := ⟨m - 1, by omega⟩
      unfold rootLoop at he
      rw [bleF (show ¬ l ≤ 1 by omega)] at he
      refine ⟨fun σ' H'' => ∃ m', m' < k + 1 ∧ W m' σ' H'', fun _ _ h => h, ?_⟩
      refine ⟨_, rfl, _, rfl, _, _, rfl, rfl, by omega, rfl, _, rfl, ite2 (fun e3 => ?_) (fun e3 => ?_)⟩
      · rw [dec_vint] at e3
        have e4 : l % a = 0 := by omega
        rw [e4] at he
        refine ⟨_, rfl, _, rfl, _, rfl, _, _, rfl, rfl, ⟨by omega, by omega⟩, _, rfl, g, (p - 1) / a, p, ?_, by omega, by omega, by omega, rfl, _, rfl, ite2 (fun e5 => ?_) (fun e5 => ?_)⟩
        · have e : ((p : Int) - 1) / (a : Int) = (((p - 1) / a : Nat) : Int) := by
            rw [Int.natCast_ediv, show ((p - 1 : Nat) : Int) = (p : Int) - 1 by omega]
          show [V.int (g : Int), V.int (((p : Int) - 1) / (a : Int)), V.int (p : Int)] = _
          rw [e]
        · rw [dec_vint] at e5
          have e6 : g ^ ((p - 1) / a) % p = 1 := by omega
          rw [e6] at he
          rw [← he] at q
          exact q
        · rw [dec_vint] at e5
          have e6 : ¬ g ^ ((p - 1) / a) % p = 1 := by omega
          rw [beqF e6] at he
          -- while left % at == 0
          refine ⟨fun m2 σ' H'' => H'' = H' ∧ ∃ l2 : Nat, σ' = [some (.int p), some (.int g), some (.int ((p : Int) - 1)), some (.int l2), some (.int a)] ∧ 1 ≤ l2 ∧ l2 ∣ l ∧ l2 ≤ m2 ∧ stripN a m2 l2 = stripN a l l, ⟨l, rfl, l, rfl, hl, Nat.dvd_refl _, by omega, rfl⟩, fun m2 σ' H'' hW2 => ?_⟩
          obtain ⟨rfl, l2, rfl, h21, h22, h23, h24⟩ := hW2
          refine ⟨_, rfl, _, rfl, _, _, rfl, rfl, by omega, rfl, _, rfl, ite2 (fun e7 => ?_) (fun e7 => ?_)⟩
          · rw [dec_vint] at e7
            have e8 : l2 % a = 0 := by omega
            obtain ⟨k2, rfl⟩ : ∃ k2, m2 = k2 + 1 := ⟨m2 - 1, by omega⟩
            rw [stripN_step e8] at h24
            have hal2 : a ≤ l2 := Nat.le_of_dvd (by omega) (Nat.dvd_of_mod_eq_zero e8)
            have hdl : l2 / a < l2 := Nat.div_lt_self (by omega) (by omega)
            refine ⟨fun σ' H2 => ∃ m', m' < k2 + 1 ∧ H2 = H'' ∧ ∃ l2 : Nat, σ' = [some (.int p), some (.int g), some (.int ((p : Int) - 1)), some (.int l2), some (.int a)] ∧ 1 ≤ l2 ∧ l2 ∣ l ∧ l2 ≤ m' ∧ stripN a m' l2 = stripN a l l, fun _ _ h => h, ?_⟩
            refine ⟨_, rfl, _, rfl, _, _, rfl, rfl, ⟨by omega, by omega⟩, ?_⟩
            refine ⟨k2, by omega, rfl, l2 / a, rfl, ?_, Nat.dvd_trans (Nat.div_dvd_of_dvd (Nat.dvd_of_mod_eq_zero e8)) h22, by omega, h24⟩
            exact Nat.div_pos hal2 (by omega)
          · rw [dec_vint] at e7
            have e8 : ¬ l2 % a = 0 := by omega
            rw [stripN_end e8] at h24
            have hle : l2 ≤ l := Nat.le_of_dvd (by omega) h22
            refine ⟨_, rfl, _, _, rfl, rfl, k, by omega, rfl, l2, a + 1, rfl, h21, by omega, by omega, by omega, fun d d1 d2 z => ?_, by omega, ?_⟩
            · by_cases y : d = a
              · subst y
                exact e8 z
              · exact hd d d1 (by omega) (Nat.mod_eq_zero_of_dvd (Nat.dvd_trans (Nat.dvd_of_mod_eq_zero z) h22))
            · rw [h24]
              exact he
      · rw [dec_vint] at e3
        have e4 : ¬ l % a = 0 := by omega
        rw [beqF e4] at he
        refine ⟨_, rfl, _, _, rfl, rfl, k, by omega, rfl, l, a + 1, rfl, hl, hl2, by omega, by omega, fun d d1 d2 => ?_, by omega, he⟩
        by_cases y : d = a
        · subst y
          exact e4
        · exact hd d d1 (by omega)
    · have e1 : l ≤ 1 := by have h := dF e; omega
      have e6 : rootB p g = true := by
        cases m with
        | zero => exact he.symm
        | succ k =>
          unfold rootLoop at he
          rw [Nat.ble_eq_true_of_le e1] at he
          exact he.symm
      rw [e6] at q
      exact q
end
end Lw
namespace Lw
open PySem PySem.Spec PyProof.Rows L2 AD
section
variable {P : Program} {w : World} {K : PySem.W.Frag} {mg : Str → Option Value} {base : Heap}
variable {fa : Nat → Addr} {fd : Nat → FuncData} {tk : Nat → Tok}
/-! ### the law's own defs -/
theorem bits_pow {z : Int} {k : Nat} (h : Builtin.Int.intBits z ≤ k) : z.natAbs < 2 ^ k := by
  unfold Builtin.Int.intBits at h
  split at h
  · rename_i e
    have e' : z = 0 := by simpa using e
    subst e'
    exact Nat.two_pow_pos k
  · exact Nat.lt_of_lt_of_le (Nat.lt_log2_self) (Nat.pow_le_pow_right (by decide) h)
theorem pow_bits {z : Int} {k : Nat} (h : z.natAbs < 2 ^ k) : Builtin.Int.intBits z ≤ k := by
  unfold Builtin.Int.intBits
  split
  · exact Nat.zero_le _
  · rename_i e
    have h0 : z.natAbs ≠ 0 := fun y => e (by simpa using y)
    exact (Nat.log2_lt h0).mpr h
theorem mulBig {i j : Int} {a b : Nat} (hi : i.natAbs < 2 ^ a) (hj : j.natAbs < 2 ^ b) (h : a + b ≤ 100000000) : IntMulOk i j := by
  have h1 := pow_bits hi
  have h2 := pow_bits hj
  have e : bitsLine = 134217728 := by decide
  unfold IntMulOk
  intro y
  rw [Bool.and_eq_true] at y
  have y2 := y.2
  unfold Builtin.Int.intTooBig at y2
  have y3 := of_decide_eq_true y2
  rw [e] at y3
  omega
theorem add_pow {i j : Int} {k : Nat} (hi : i.natAbs < 2 ^ k) (hj : j.natAbs < 2 ^ k) : (i + j).natAbs < 2 ^ (k + 1) := by
  have h := Int.natAbs_add_le i j
  rw [Nat.pow_succ]
  omega
theorem up_pow {i : Int} {k m : Nat} (hi : i.natAbs < 2 ^ k) (h : k ≤ m) : i.natAbs < 2 ^ m := Nat.lt_of_lt_of_le hi (Nat.pow_le_pow_right (by decide) h)
theorem mul_pow2 {i j : Int} {a b : Nat} (ha : i.natAbs < 2 ^ a) (hb : j.natAbs < 2 ^ b) : (i * j).natAbs < 2 ^ (a + b) := by
  rw [Int.natAbs_mul, Nat.pow_add]
  exact Nat.mul_lt_mul'' ha hb
/-- a number comes, which one is not told -/
def spNumber : Sp := fun vs H Q _ => ∃ (c a w : Int) (k : Nat), vs = [.int c, .int a, .int w] ∧ 0 ≤ a ∧ a ≤ 100000 ∧ c.natAbs < 2 ^ k ∧ 64 ≤ k ∧ k ≤ 2000000 ∧ ∀ n : Int, Q (.int n) H
theorem ok__law_number (T : Txt K mg fa fd tk) : FnOk P w K mg base CX0 1 (fa 9) (fd 9) ["_law_cell", "_law_at", "_law_whole"] spNumber := by
  refine T.F__law_number.ok sc__law_number (fun vs H Q E h => ?_) (fun cdv A outer s H vs Q E hr h => ?_)
  · obtain ⟨c, a, w', k, rfl, _⟩ := h
    rfl
  · obtain ⟨c, a, w', k, rfl, ha, ha2, hc, hk, hk2, q⟩ := h
    refine ⟨_, (pss_cons (ps_if (pt_cmpR op_ge (pv 0) (pe_op op_pow pe_int pe_int) (nomark _)) (pss_one (ps_ret (pe_op op_fdiv (pv 0) (pe_op op_add pe_int (pe_op op_mod (pv 1) pe_int))))) pss_nil)
      (pss_cons (ps_set (i := 3) sc__law_number.nd rfl (.inl rfl) (pe_op op_mod (pe_op op_add (pe_op op_mulB (pe_op op_add (pv 0) (pe_op op_mulB pe_int (pv 1))) pe_int) (pv 2)) pe_int))
      (pss_cons (ps_set (i := 4) sc__law_number.nd rfl (.inl rfl) (pe_op op_mulB (pv 3) (pe_op op_add (pe_op op_add (pv 0) (pe_op op_mulB pe_int (pv 1))) pe_int)))
      (pss_one (ps_ret (pe_op op_fdiv (pe_op op_mulB (pe_op op_mulB (pv 4) (pe_op op_add (pe_op op_add (pv 3) (pv 0)) pe_int)) (pe_op op_add (pe_op op_mulB (pv 3) (pv 3)) pe_int)) (pe_op op_add pe_int (pv 1)))))))), ?_⟩
    refine ⟨_, rfl, _, _, rfl, rfl, ⟨by decide, by decide, by decide⟩, _, _, rfl, rfl, _, rfl, ite2 (fun e => ?_) (fun e => ?_)⟩
    · refine ⟨_, rfl, _, rfl, _, _, rfl, rfl, (show (0 : Int) < 7 by decide), _, _, rfl, rfl, _, _, rfl, rfl, ?_, q _⟩
      show 0 < 1 + a % 7 ∧ 1 + a % 7 < 1073741824
      omega
    · have e1 : IntMulOk 977 a := mulL (by decide) (by decide)
      refine ⟨_, rfl, _, rfl, _, _, rfl, rfl, e1, _, _, rfl, rfl, _, _, rfl, rfl, mulR (by decide) (by decide), _, rfl, _, _, rfl, rfl, _, _, rfl, rfl, (show (0 : Int) < 2147483647 by decide), ?_⟩
      -- more
      have p32 : (2 : Nat) ^ 32 = 4294967296 := by decide
      have p64 : (2 : Nat) ^ 64 ≤ 2 ^ k := Nat.pow_le_pow_right (by decide) hk
      have p64' : (2 : Nat) ^ 64 = 18446744073709551616 := by decide
      have b1 : (c + 31 * a + 7).natAbs < 2 ^ (k + 1 + 1) := by
        refine add_pow (add_pow hc ?_) ?_
        · omega
        · rw [Nat.pow_succ]; omega
      have key : ∀ mx : Int, 0 ≤ mx → mx < 2147483647 → IntMulOk mx (c + 31 * a + 7) ∧ IntMulOk (mx * (c + 31 * a + 7)) (mx + c + 5) ∧ IntMulOk mx mx ∧ ∀ i, IntMulOk i (mx * mx + 11) := by
        intro mx m0 m1
        have b2 : mx.natAbs < 2 ^ 32 := by omega
        have b3 : (mx * (c + 31 * a + 7)).natAbs < 2 ^ (32 + (k + 1 + 1)) := mul_pow2 b2 b1
        have b4 : (mx + c + 5).natAbs < 2 ^ (k + 1 + 1) := by
          refine add_pow (add_pow ?_ hc) ?_
          · omega
          · rw [Nat.pow_succ]; omega
        have m2 : mx * mx ≤ 2147483647 * mx := Int.mul_le_mul_of_nonneg_right (Int.le_of_lt m1) m0
        have m3 : 0 ≤ mx * mx := Int.mul_nonneg m0 m0
        exact ⟨mulL (by omega) (by omega), mulBig b3 b4 (by omega), mulL (by omega) (by omega), fun i => mulR (by omega) (by omega)⟩
      obtain ⟨k1, k2, k3, k4⟩ := key (((c + 977 * a) * 48271 + w') % 2147483647) (Int.emod_nonneg _ (by decide)) (Int.emod_lt_of_pos _ (by decide))
      refine ⟨_, rfl, _, rfl, _, rfl, _, _, rfl, rfl, mulL (by decide) (by decide), _, _, rfl, rfl, _, _, rfl, rfl, _, _, rfl, rfl, k1, ?_⟩
      refine ⟨_, rfl, _, rfl, _, rfl, _, _, rfl, rfl, _, _, rfl, rfl, _, _, rfl, rfl, k2, ?_⟩
      refine ⟨_, rfl, _, rfl, _, _, rfl, rfl, k3, _, _, rfl, rfl, _, _, rfl, rfl, k4 _, _, rfl, _, _, rfl, rfl, _, _, rfl, rfl, ?_, q _⟩
      show 0 < 1009 + a ∧ 1009 + a < 1073741824
      omega
end
end Lw
namespace Lw
open PySem PySem.Spec PyProof.Rows L2 AD
section
variable {P : Program} {w : World} {K : PySem.W.Frag} {mg : Str → Option Value} {base : Heap}
variable {fa : Nat → Addr} {fd : Nat → FuncData} {tk : Nat → Tok}
/-! ### the law's primes, powers, roots -/
theorem ix_ints {l : List Nat} {z : Int} {n : Nat} (hn : l.length = n) (h0 : 0 ≤ z) (h1 : z < n) : ∃ p ∈ l, atI (l.map fun i : Nat => V.int i) z = some (.int (p : Nat)) := by
  have h2 : z.toNat < l.length := by omega
  refine ⟨l[z.toNat], List.getElem_mem h2, at_of (j := z.toNat) (by omega) ?_⟩
  rw [List.getElem?_map, List.getElem?_eq_getElem h2]
  rfl
def spPrime : Sp := fun vs H Q _ => ∃ n : Int, vs = [.int n] ∧ ∀ (p : Nat) (H' : Hp), p ∈ PS0 ++ PG0 → Same H H' → Q (.int p) H'
theorem ok__law_prime (T : Txt K mg fa fd tk) : FnOk P w K mg base CX0 1 (fa 10) (fd 10) ["_law_number_here"] spPrime := by
  refine T.F__law_prime.ok sc__law_prime (fun vs H Q E h => ?_) (fun cdv A outer s H vs Q E hr h => ?_)
  · obtain ⟨n, rfl, _⟩ := h
    rfl
  · obtain ⟨n, rfl, q⟩ := h
    refine ⟨_, (pss_cons (ps_set (i := 1) sc__law_prime.nd rfl (.inl rfl) (pe_tup (pa_cons pe_int (pa_cons pe_int (pa_cons pe_int (pa_cons pe_int (pa_cons pe_int (pa_cons pe_int (pa_cons pe_int (pa_cons pe_int (pa_cons pe_int (pa_cons pe_int (pa_cons pe_int (pa_cons pe_int (pa_cons pe_int (pa_cons pe_int (pa_cons pe_int (pa_cons pe_int (pa_cons pe_int pa_nil)))))))))))))))))))
      (pss_cons (ps_if (pt_cmpR op_eq (pe_op op_mod (pv 0) pe_int) pe_int (nomark _)) (pss_one (ps_ret (pe_ix ix_tup (pe_tup (pa_cons pe_int (pa_cons pe_int (pa_cons pe_int (pa_cons pe_int (pa_cons pe_int pa_nil)))))) (pe_op op_mod (pe_op op_fdiv (pv 0) pe_int) pe_int) (fun _ _ => rfl)))) pss_nil)
      (pss_one (ps_ret (pe_ix ix_tup (pv 1) (pe_op op_mod (pe_op op_fdiv (pv 0) pe_int) pe_int) (fun _ _ => rfl)))))), ?_⟩
    refine ⟨by show 17 ≤ sizeLine; decide, fun t ht => ?_⟩
    have s1 : Same H (upd H t (.tup (PS0.map fun i : Nat => V.int i))) := same_upd ht
    refine ⟨_, rfl, _, _, rfl, rfl, (show (0 : Int) < 8 by decide), rfl, _, rfl, ite2 (fun e => ?_) (fun e => ?_)⟩
    · refine ⟨by show 5 ≤ sizeLine; decide, fun u hu => ?_⟩
      obtain ⟨p, hp, hx⟩ := ix_ints (l := PG0) (z := n / 8 % 5) (n := 5) rfl (Int.emod_nonneg _ (by decide)) (Int.emod_lt_of_pos _ (by decide))
      refine ⟨_, rfl, _, _, rfl, rfl, ⟨by decide, by decide⟩, _, _, rfl, rfl, (show (0 : Int) < 5 by decide), u, _, _, _, rfl, rfl, SqT.of upd_same, hx, q p _ (List.mem_append_right _ hp) (s1.trans (same_upd hu))⟩
    · obtain ⟨p, hp, hx⟩ := ix_ints (l := PS0) (z := n / 8 % 17) (n := 17) rfl (Int.emod_nonneg _ (by decide)) (Int.emod_lt_of_pos _ (by decide))
      refine ⟨_, rfl, _, rfl, _, _, rfl, rfl, ⟨by decide, by decide⟩, _, _, rfl, rfl, (show (0 : Int) < 17 by decide), t, _, _, _, rfl, rfl, SqT.of upd_same, hx, q p _ (List.mem_append_left _ hp) s1⟩
/-- the powers from the first one on -/
def powL (p g n : Nat) : List V := (List.range n).map fun i => V.int ((g ^ (i + 1) % p : Nat) : Int)
theorem powL_len (p g n : Nat) : (powL p g n).length = n := by unfold powL; rw [List.length_map, List.length_range]
theorem powL_succ (p g n : Nat) : powL p g (n + 1) = powL p g n ++ [V.int ((g ^ (n + 1) % p : Nat) : Int)] := by
  unfold powL
  rw [List.range_succ, List.map_append]
  rfl
theorem powL_last (p g n : Nat) : atI (powL p g (n + 1)) (-1) = some (V.int ((g ^ (n + 1) % p : Nat) : Int)) := by
  rw [powL_succ]
  exact atI_last _ _
def spPowers : Sp := fun vs H Q _ => ∃ p g : Nat, vs = [.int p, .int g] ∧ 3 ≤ p ∧ p ≤ 2000 ∧ g < p ∧ ∀ (H' : Hp) (a : Addr), Same H H' → H a = none → H' a = some (.lst (powL p g (plen p g))) → Q (.ref a) H'
theorem ok__law_powers (T : Txt K mg fa fd tk) : FnOk P w K mg base CX0 1 (fa 11) (fd 11) ["_law_prime_here", "_law_number_here"] spPowers := by
  refine T.F__law_powers.ok sc__law_powers (fun vs H Q E h => ?_) (fun cdv A outer s H vs Q E hr h => ?_)
  · obtain ⟨p, g, rfl, _⟩ := h
    rfl
  · obtain ⟨p, g, rfl, hp, hp2, hg, q⟩ := h
    refine ⟨_, (pss_cons (ps_set (i := 2) sc__law_powers.nd rfl (.inl rfl) (pe_lst (pa_cons (pe_op op_mod (pv 1) (pv 0)) pa_nil)))
      (pss_cons (ps_while PassesOwn.never (PW.pt (pw_and (pt_cmpR op_ne (pe_ix ix_list (pv 2) (pe_un un_neg pe_int) (fun _ _ => rfl)) pe_int (nomark _)) (pw_and1 (pt_cmpR op_lt (pe_callB call_len_seq (by rfl) T.m_len (by decide +kernel) (pa_cons (pv 2) pa_nil)) (pv 0) (nomark _))))) (pss_one (ps_expr (pe_bm PySem.F.plainAttrs_list PySem.F.slot_list_append PySem.F.type_list_append mt_append (pv 2) (pa_cons (pe_op op_mod (pe_op op_mulB (pe_ix ix_list (pv 2) (pe_un un_neg pe_int) (fun _ _ => rfl)) (pv 1)) (pv 0)) pa_nil)))))
      (pss_one (ps_ret (pv 2))))), ?_⟩
    refine ⟨_, rfl, _, rfl, _, _, rfl, rfl, (show (0 : Int) < p by omega), by show 1 ≤ sizeLine; decide, fun a ha => ?_⟩
    let W : Nat → L2.St → Hp → Prop := fun m σ H' => σ = [some (.int p), some (.int g), some (.ref a)] ∧ ∃ n, Same H H' ∧ H' a = some (.lst (powL p g (n + 1))) ∧ m + (n + 1) = p ∧ ∀ k, 1 ≤ k → k < n + 1 → g ^ k % p ≠ 1
    refine ⟨W, ⟨p - 1, rfl, 0, same_upd ha, ?_, by omega, fun k k1 k2 => by omega⟩, fun m σ H' hW => ?_⟩
    · rw [upd_same, powL_succ]
      show some (HO.lst [V.int ((g : Int) % (p : Int))]) = some (HO.lst ([] ++ [V.int ((g ^ 1 % p : Nat) : Int)]))
      rw [Nat.pow_one]
      rfl
    obtain ⟨rfl, n, sm, hl, hm, hno⟩ := hW
    have hq : SqL K H' a (powL p g (n + 1)) := .of hl
    refine ⟨_, rfl, 1, rfl, a, _, _, _, rfl, rfl, hq, powL_last p g n, rfl, _, rfl, ite2 (fun e => ?_) (fun e => ?_)⟩
    · have e1 : ¬ g ^ (n + 1) % p = 1 := fun z => by
        rw [z] at e
        cases e
      refine ⟨_, rfl, a, _, rfl, .inl hq, _, rfl, _, _, rfl, rfl, _, rfl, ite2 (fun e2 => ?_) (fun e2 => ?_)⟩
      · have e3 : n + 1 < p := by
          have h := dT e2
          rw [powL_len] at h
          omega
        have hlt := Nat.mod_lt (g ^ (n + 1)) (show p > 0 by omega)
        refine ⟨fun σ' H'' => ∃ m', m' < m ∧ W m' σ' H'', fun _ _ h => h, ?_⟩
        refine ⟨_, rfl, .inl ⟨rfl, _, hq⟩, _, rfl, 1, rfl, a, _, _, _, rfl, rfl, hq, powL_last p g n, _, rfl, _, _, rfl, rfl, mulL (by omega) (by omega), _, rfl, _, _, rfl, rfl, (show (0 : Int) < p by omega), a, _, _, rfl, rfl, hl, ?_, ?_⟩
        · rw [powL_len]
          exact Nat.lt_of_lt_of_le (show n + 1 < 2000 by omega) (by decide)
        · refine ⟨m - 1, by omega, rfl, n + 1, fun b o h => ?_, ?_, by omega, fun k k1 k2 => ?_⟩
          · rw [upd_ne (ne_of_none h ha)]
            exact sm b o h
          · rw [upd_same, powL_succ p g (n + 1)]
            have e9 : g ^ (n + 1 + 1) % p = (g ^ (n + 1) % p * g) % p := by rw [Nat.pow_succ g (n + 1), Nat.mod_mul_mod]
            rw [e9]
            rfl
          · by_cases z : k = n + 1
            · rw [z]; exact e1
            · exact hno k k1 (by omega)
      · have e3 : n + 1 = p := by
          have h := dF e2
          rw [powL_len] at h
          omega
        have z : plen p g = n + 1 := plen_unique (by omega) (by omega) (by omega) hno (.inr e3)
        rw [← z] at hl
        exact ⟨_, rfl, q H' a sm ha hl⟩
    · have e1 : g ^ (n + 1) % p = 1 := by
        by_cases z : g ^ (n + 1) % p = 1
        · exact z
        · refine absurd ?_ e
          rw [Bool.not_eq_true', decide_eq_false_iff_not]
          intro y
          have := V.int.inj y
          omega
      have z : plen p g = n + 1 := plen_unique (by omega) (by omega) (by omega) hno (.inl e1)
      rw [← z] at hl
      exact iteF ⟨_, rfl, q H' a sm ha hl⟩
/-- a root comes; of 0 the least one -/
def spRoot : Sp := fun vs H Q _ => ∃ (p r0 : Nat) (n : Int), vs = [.int p, .int n] ∧ Root p r0 ∧ ∀ (r : Nat) (H' : Hp), Root p r → (n = 0 → ∀ g, 1 ≤ g → g < r → plen p g ≠ p - 1) → Same H H' → Q (.int r) H'
theorem ok__law_root (T : Txt K mg fa fd tk) : FnOk P w K mg base CX0 2 (fa 12) (fd 12) ["_law_prime_here", "_law_number_here"] spRoot := by
  refine T.F__law_root.ok sc__law_root (fun vs H Q E h => ?_) (fun cdv A outer s H vs Q E hr h => ?_)
  · obtain ⟨p, r0, n, rfl, _⟩ := h
    rfl
  · obtain ⟨p, r0, n, rfl, R, q⟩ := h
    have lo := R.good.lo
    have hi := R.good.hi
    have r1 := R.one
    have r2 := R.lt
    refine ⟨_, (pss_cons (ps_set (i := 2) sc__law_root.nd rfl (.inl rfl) (pe_op op_add pe_int (pe_op op_mod (pv 1) (pe_op op_sub (pv 0) pe_int))))
      (pss_cons (ps_while PassesOwn.never (pt_cmpR op_lt (pe_callB call_len_seq (by rfl) T.m_len (by decide +kernel) (pa_cons (pe_call (ok__law_powers T) (hr.mono (by decide)) (by rfl) T.g__law_powers T.F__law_powers.kp T.b__law_powers .nil pass0 (pa_cons (pv 0) (pa_cons (pv 2) pa_nil))) pa_nil)) (pe_op op_sub (pv 0) pe_int) (nomark _)) (pss_one (ps_set (i := 2) sc__law_root.nd rfl (.inl rfl) (pe_op op_add pe_int (pe_op op_mod (pv 2) (pe_op op_sub (pv 0) pe_int))))))
      (pss_one (ps_ret (pv 2))))), ?_⟩
    refine ⟨_, rfl, _, rfl, _, _, rfl, rfl, _, _, rfl, rfl, (show (0 : Int) < (p : Int) - 1 by omega), _, _, rfl, rfl, ?_⟩
    let W : Nat → L2.St → Hp → Prop := fun m σ H' => Same H H' ∧ ∃ a : Nat, σ = [some (.int p), some (.int n), some (.int a)] ∧ 1 ≤ a ∧ a < p ∧ m = (if a ≤ r0 then r0 - a else r0 + (p - 1) - a) ∧ (n = 0 → ∀ g, 1 ≤ g → g < a → plen p g ≠ p - 1)
    have n0 := Int.emod_nonneg n (show (p : Int) - 1 ≠ 0 by omega)
    have n1 := Int.emod_lt_of_pos n (show (0 : Int) < (p : Int) - 1 by omega)
    refine ⟨W, ⟨_, Same.refl H, (1 + n % ((p : Int) - 1)).toNat, ?_, by omega, by omega, rfl, fun z g g1 g2 => ?_⟩, fun m σ H' hW => ?_⟩
    · rw [Int.toNat_of_nonneg (by omega)]
      rfl
    · subst z
      rw [Int.zero_emod] at g2
      omega
    obtain ⟨sm, a, rfl, a1, a2, hm, hno⟩ := hW
    refine ⟨_, rfl, _, rfl, p, a, rfl, lo, hi, a2, fun H2 l s2 nl hl => ?_⟩
    refine ⟨l, _, rfl, .inl (.of hl), _, rfl, _, _, rfl, rfl, _, _, rfl, rfl, _, rfl, ite2 (fun e => ?_) (fun e => ?_)⟩
    · have e1 : plen p a ≠ p - 1 := by
        have h := dT e
        rw [powL_len] at h
        omega
      have ne : a ≠ r0 := fun z => by
        rw [z] at e1
        exact e1 R.len
      refine ⟨fun σ' H'' => ∃ m', m' < m ∧ W m' σ' H'', fun _ _ h => h, ?_⟩
      refine ⟨_, rfl, _, rfl, _, _, rfl, rfl, _, _, rfl, rfl, (show (0 : Int) < (p : Int) - 1 by omega), _, _, rfl, rfl, ?_⟩
      by_cases z : a = p - 1
      · subst z
        refine ⟨_, ?_, sm.trans s2, 1, ?_, by omega, by omega, rfl, fun _ g g1 g2 => by omega⟩
        · rw [hm, if_pos (show 1 ≤ r0 from r1), if_neg (by omega)]
          omega
        · have e2 : ((p - 1 : Nat) : Int) % ((p : Int) - 1) = 0 := by
            rw [show ((p - 1 : Nat) : Int) = (p : Int) - 1 by omega, Int.emod_self]
          show [some (V.int (p : Int)), some (V.int n), some (V.int (1 + ((p - 1 : Nat) : Int) % ((p : Int) - 1)))] = _
          rw [e2]
          rfl
      · refine ⟨_, ?_, sm.trans s2, a + 1, ?_, by omega, by omega, rfl, fun hz g g1 g2 => ?_⟩
        · rw [hm]
          split <;> split <;> omega
        · have e2 : (a : Int) % ((p : Int) - 1) = a := Int.emod_eq_of_lt (by omega) (by omega)
          show [some (V.int (p : Int)), some (V.int n), some (V.int (1 + (a : Int) % ((p : Int) - 1)))] = _
          rw [e2, Int.add_comm]
          rfl
        · by_cases y : g = a
          · rw [y]; exact e1
          · exact hno hz g g1 (by omega)
    · have e1 : plen p a = p - 1 := by
        have h := dF e
        rw [powL_len] at h
        have := R.good.plen_le a1 a2
        omega
      exact ⟨_, rfl, q a H2 ⟨R.good, a1, a2, e1⟩ hno (sm.trans s2)⟩
end
end Lw
namespace Lw
open PySem PySem.Spec PyProof.Rows L2 AD
section
variable {P : Program} {w : World} {K : PySem.W.Frag} {mg : Str → Option Value} {base : Heap}
variable {fa : Nat → Addr} {fd : Nat → FuncData} {tk : Nat → Tok}
/-! ### asked_root, asked_plan, row_of, found_column, column_of, dots_of -/
def spAskedRoot : Sp := fun vs H Q _ => ∃ p g : Nat, vs = [.int p, .int g] ∧ Root p g ∧ rootB p g = true ∧ Q .non H
theorem ok_asked_root (T : Txt K mg fa fd tk) : FnOk P w K mg base CX0 3 (fa 5) (fd 5) ["prime", "root"] spAskedRoot := by
  refine T.F_asked_root.ok sc_asked_root (fun vs H Q E h => ?_) (fun cdv A outer s H vs Q E hr h => ?_)
  · obtain ⟨p, m, rfl, _⟩ := h
    rfl
  · obtain ⟨p, g, rfl, R, hB, q⟩ := h
    have lo := R.good.lo
    have hi := R.good.hi
    have g1 := R.one
    have g2 := R.lt
    refine ⟨_, (pss_one (ps_if (PW.pt (pw_or (pt_not (pt_val (pe_call (ok_is_whole T) (hr.mono (by decide)) (by rfl) T.g_is_whole T.F_is_whole.kp T.b_is_whole .nil pass0 (pa_cons (pv 1) pa_nil)))) (pw_or (pt_not (pt_chain op_le op_lt pe_int (pv 1) (pv 0))) (pw_or1 (pt_not (pt_val (pe_call (ok_root_of T) (hr.mono (by decide)) (by rfl) T.g_root_of T.F_root_of.kp T.b_root_of .nil pass0 (pa_cons (pv 0) (pa_cons (pv 1) pa_nil))))))))) (pss_one ps_never) pss_nil)), ?_⟩
    refine ⟨_, rfl, _, rfl, .inl ⟨_, rfl, _, rfl, iteF ?_⟩⟩
    refine ⟨_, rfl, _, _, rfl, rfl, _, rfl, ?_⟩
    rw [decide_eq_true (show (1 : Int) ≤ g by omega)]
    refine iteT ⟨_, rfl, _, _, rfl, rfl, _, rfl, ?_⟩
    rw [decide_eq_true (show (g : Int) < p by omega)]
    refine iteF ⟨_, rfl, _, rfl, p, g, rfl, lo, hi, g2, _, rfl, ?_⟩
    rw [hB]
    exact iteF q
def spAskedPlan : Sp := fun vs H Q _ => ∃ (p g m : Nat) (b : Int), vs = [.int p, .int g, .int b, .int m] ∧ Root p g ∧ rootB p g = true ∧ p ≤ m ∧ Q .non H
theorem ok_asked_plan (T : Txt K mg fa fd tk) : FnOk P w K mg base CX0 4 (fa 6) (fd 6) ["prime", "root", "begin", "most"] spAskedPlan := by
  refine T.F_asked_plan.ok sc_asked_plan (fun vs H Q E h => ?_) (fun cdv A outer s H vs Q E hr h => ?_)
  · obtain ⟨p, g, m, b, rfl, _⟩ := h
    rfl
  · obtain ⟨p, g, m, b, rfl, R, hB, hm, q⟩ := h
    refine ⟨_, (pss_cons (ps_expr (pe_call (ok_asked_prime T) (hr.mono (by decide)) (by rfl) T.g_asked_prime T.F_asked_prime.kp T.b_asked_prime .nil pass0 (pa_cons (pv 0) (pa_cons (pv 3) pa_nil))))
      (pss_cons (ps_expr (pe_call (ok_asked_root T) (hr.mono (by decide)) (by rfl) T.g_asked_root T.F_asked_root.kp T.b_asked_root .nil pass0 (pa_cons (pv 0) (pa_cons (pv 1) pa_nil))))
      (pss_one (ps_if (pt_not (pt_val (pe_call (ok_is_whole T) (hr.mono (by decide)) (by rfl) T.g_is_whole T.F_is_whole.kp T.b_is_whole .nil pass0 (pa_cons (pv 2) pa_nil)))) (pss_one ps_never) pss_nil)))), ?_⟩
    refine ⟨_, rfl, _, rfl, p, m, rfl, R.good, hm, ?_⟩
    refine ⟨_, rfl, _, rfl, p, g, rfl, R, hB, ?_⟩
    exact ⟨_, rfl, _, rfl, .inl ⟨_, rfl, _, rfl, iteF q⟩⟩
/-- the tuple's second place: what power is asked for -/
theorem pow_arg {p g : Nat} {b : Int} (hp : 3 ≤ p) : [V.int (g : Int), V.int (b % ((p : Int) - 1)), V.int (p : Int)] = [V.int ((g : Nat) : Int), V.int ((be p b : Nat) : Int), V.int ((p : Nat) : Int)] := by
  rw [be_cast hp]
def spFound : Sp := fun vs H Q _ => ∃ (p g : Nat) (b z : Int), vs = [.int p, .int g, .int b, .int z] ∧ Root p g ∧ 0 ≤ z ∧ z < (p : Int) - 1 ∧ ∀ c : Nat, c < p - 1 → ((rowA p g b c : Nat) : Int) = z + 1 → Q (.int c) H
theorem ok_found_column (T : Txt K mg fa fd tk) : FnOk P w K mg base CX0 2 (fa 7) (fd 7) ["prime", "root", "begin", "row"] spFound := by
  refine T.F_found_column.ok sc_found_column (fun vs H Q E h => ?_) (fun cdv A outer s H vs Q E hr h => ?_)
  · obtain ⟨p, g, b, z, rfl, _⟩ := h
    rfl
  · obtain ⟨p, g, b, z, rfl, R, z0, z1, q⟩ := h
    have lo := R.good.lo
    have hi := R.good.hi
    have g2 := R.lt
    obtain ⟨c, hc, ec⟩ := R.row_onto b (show 1 ≤ (z + 1).toNat by omega) (show (z + 1).toNat < p by omega)
    refine ⟨_, (pss_cons (ps_set (i := 4) sc_found_column.nd rfl (.inl rfl) (pe_call (ok_power T) (hr.mono (by decide)) (by rfl) T.g_power T.F_power.kp T.b_power .nil pass0 (pa_cons (pv 1) (pa_cons (pe_op op_mod (pv 2) (pe_op op_sub (pv 0) pe_int)) (pa_cons (pv 0) pa_nil)))))
      (pss_cons (ps_set (i := 5) sc_found_column.nd rfl (.inl rfl) pe_int)
      (pss_cons (ps_while PassesOwn.never (pt_cmpR op_ne (pv 4) (pe_op op_add (pv 3) pe_int) (nomark _)) (pss_cons (ps_set (i := 4) sc_found_column.nd rfl (.inl rfl) (pe_op op_mod (pe_op op_mulB (pv 4) (pv 1)) (pv 0)))
      (pss_one (ps_set (i := 5) sc_found_column.nd rfl (.inl rfl) (pe_op op_add (pv 5) pe_int)))))
      (pss_one (ps_ret (pv 5)))))), ?_⟩
    refine ⟨_, rfl, _, rfl, _, rfl, _, _, rfl, rfl, _, _, rfl, rfl, (show (0 : Int) < (p : Int) - 1 by omega), _, rfl, g, be p b, p, pow_arg lo, by omega, hi, by omega, ?_⟩
    let W : Nat → L2.St → Hp → Prop := fun m σ H' => H' = H ∧ ∃ k : Nat, σ = [some (.int p), some (.int g), some (.int b), some (.int z), some (.int ((rowA p g b k : Nat) : Int)), some (.int k)] ∧ k + m = c
    refine ⟨W, ⟨c, rfl, 0, rfl, by omega⟩, fun m σ H' hW => ?_⟩
    obtain ⟨rfl, k, rfl, hk⟩ := hW
    refine ⟨_, rfl, _, rfl, _, _, rfl, rfl, rfl, _, rfl, ite2 (fun e => ?_) (fun e => ?_)⟩
    · have hm : m ≠ 0 := fun y => by
        have e1 : k = c := by omega
        rw [e1, ec, show (((z + 1).toNat : Nat) : Int) = z + 1 by omega, decide_eq_true rfl] at e
        cases e
      have hlt := R.row_lt b k
      refine ⟨fun σ' H'' => ∃ m', m' < m ∧ W m' σ' H'', fun _ _ h => h, ?_⟩
      refine ⟨_, rfl, _, rfl, _, _, rfl, rfl, mulL (by omega) (by omega), _, rfl, _, _, rfl, rfl, (show (0 : Int) < p by omega), ?_⟩
      refine ⟨_, rfl, _, _, rfl, rfl, m - 1, by omega, rfl, k + 1, ?_, by omega⟩
      have e9 : rowA p g b (k + 1) = rowA p g b k * g % p := by
        unfold rowA
        rw [← Nat.add_assoc, Nat.pow_succ, Nat.mod_mul_mod]
      rw [e9]
      rfl
    · have e1 : ((rowA p g b k : Nat) : Int) = z + 1 := by
        by_cases y : ((rowA p g b k : Nat) : Int) = z + 1
        · exact y
        · refine absurd ?_ e
          rw [Bool.not_eq_true', decide_eq_false_iff_not]
          intro y2
          exact y (V.int.inj y2)
      exact ⟨_, rfl, q k (by omega) e1⟩
end
end Lw
namespace Lw
open PySem PySem.Spec PyProof.Rows L2 AD
section
variable {P : Program} {w : World} {K : PySem.W.Frag} {mg : Str → Option Value} {base : Heap}
variable {fa : Nat → Addr} {fd : Nat → FuncData} {tk : Nat → Tok}
/-! ### the law's plans and rows -/
theorem cast_ne0 {n : Nat} (h : n ≠ 0) : (0 : Int) < (n : Int) := by omega
theorem six_bits : (6 : Int).natAbs < 2 ^ 1048576 := Nat.lt_of_lt_of_le (by decide : (6 : Nat) < 2 ^ 3) (Nat.pow_le_pow_right (by decide) (by decide))
def Small (ns : List Int) : Prop := ns.length ≤ 63 ∧ ∀ z ∈ ns, Builtin.Int.intBits z ≤ 1048576
/-- the cells: those of the script, or a 6 -/
def cellsOf (ns : List Int) : List Int := if ns = [] then [6] else ns
theorem cells_len {ns : List Int} (h : Small ns) : 1 ≤ (cellsOf ns).length ∧ (cellsOf ns).length ≤ 63 := by
  unfold cellsOf
  split
  · exact ⟨by decide, by decide⟩
  · rename_i e
    refine ⟨?_, h.1⟩
    cases ns with
    | nil => exact absurd rfl e
    | cons _ _ => exact Nat.succ_le_succ (Nat.zero_le _)
theorem cells_bits {ns : List Int} (h : Small ns) : ∀ z ∈ cellsOf ns, z.natAbs < 2 ^ 1048576 := by
  unfold cellsOf
  split
  · intro z hz
    rw [List.mem_singleton.mp hz]
    exact six_bits
  · exact fun z hz => bits_pow (h.2 z hz)
/-- an item of a list of ints, by a number from 0 on -/
theorem atI_ints {ns : List Int} {z : Int} (h0 : 0 ≤ z) (h1 : z < (ns.length : Int)) : ∃ y ∈ ns, atI (ns.map V.int) z = some (.int y) := by
  have h2 : z.toNat < ns.length := by omega
  refine ⟨ns[z.toNat], List.getElem_mem h2, at_of (j := z.toNat) (by omega) ?_⟩
  rw [List.getElem?_map, List.getElem?_eq_getElem h2]
  rfl
/-- a prime, a root, a beginning come -/
def spPlan (K : PySem.W.Frag) : Sp := fun vs H Q _ => ∃ (a : Addr) (ns : List Int) (k : Nat), vs = [.ref a, .int k] ∧ SqL K H a (ns.map V.int) ∧ Small ns ∧ k ≤ 1000 ∧
  ∀ (H' : Hp) (t : Addr) (p g : Nat) (b : Int), p ∈ PS0 ++ PG0 → Root p g → Same H H' → H' t = some (.tup [.int p, .int g, .int b]) → Q (.ref t) H'
theorem ok__law_plan (T : Txt K mg fa fd tk) : FnOk P w K mg base CX0 3 (fa 13) (fd 13) ["_law_script", "_law_by"] (spPlan K) := by
  refine T.F__law_plan.ok sc__law_plan (fun vs H Q E h => ?_) (fun cdv A outer s H vs Q E hr h => ?_)
  · obtain ⟨a, ns, k, rfl, _⟩ := h
    rfl
  · obtain ⟨a, ns, k, rfl, hS, hsm, hk, q⟩ := h
    have hu := hr.units
    refine ⟨_, (C8.pss_cut (ps_set (i := 2) sc__law_plan.nd rfl (.inl rfl) (pe_ifExp (pt_cmpR (op_neL hu) (pv 0) (pe_lst pa_nil) (nomark _)) (pe_slice sl_list (pv 0) po_none (po_some pe_int)) (pe_lst (pa_cons pe_int pa_nil))))
      (pss_cons (ps_set (i := 3) sc__law_plan.nd rfl (.inl rfl) (pe_call (ok__law_number T) (hr.mono (by decide)) (by rfl) T.g__law_number T.F__law_number.kp T.b__law_number .nil pass0 (pa_cons (pe_ix ix_list (pv 2) (pe_op op_mod (pv 1) (pe_callB call_len_seq (by rfl) T.m_len (by decide +kernel) (pa_cons (pv 2) pa_nil))) (fun _ _ => rfl)) (pa_cons (pv 1) (pa_cons (pe_callB call_len_seq (by rfl) T.m_len (by decide +kernel) (pa_cons (pv 2) pa_nil)) pa_nil)))))
      (pss_cons (ps_set (i := 4) sc__law_plan.nd rfl (.inl rfl) (pe_call (ok__law_prime T) (hr.mono (by decide)) (by rfl) T.g__law_prime T.F__law_prime.kp T.b__law_prime .nil pass0 (pa_cons (pv 3) pa_nil)))
      (pss_cons (ps_set (i := 5) sc__law_plan.nd rfl (.inl rfl) (pe_ifExp (pt_cmpR op_gt (pe_op op_mod (pv 3) pe_int) pe_int (nomark _)) (pe_op op_mod (pe_op op_fdiv (pv 3) pe_int) (pe_op op_mulB pe_int (pv 4))) (pe_op op_sub (pe_op op_fdiv (pv 3) pe_int) (pe_op op_pow pe_int pe_int))))
      (pss_one (ps_ret (pe_tup (pa_cons (pv 4) (pa_cons (pe_call (ok__law_root T) (hr.mono (by decide)) (by rfl) T.g__law_root T.F__law_root.kp T.b__law_root .nil pass0 (pa_cons (pv 4) (pa_cons (pe_op op_fdiv (pv 3) pe_int) pa_nil))) (pa_cons (pv 5) pa_nil)))))))))), ?_⟩
    -- the cells
    refine ⟨fun σ' H' => ∃ c, Same H H' ∧ H' c = some (.lst ((cellsOf ns).map V.int)) ∧ σ' = [some (.ref a), some (.int k), some (.ref c), none, none, none], ?_, fun σ' H1 hM => ?_⟩
    · refine ⟨_, rfl, Nat.zero_le _, fun e ne => ?_⟩
      have s0 := same_upd (o := .lst []) ne
      refine ⟨a, e, ns, [], rfl, rfl, s0.seq hS, .of upd_same, _, rfl, ite2 (fun e1 => ?_) (fun e1 => ?_)⟩
      · have e2 : ns ≠ [] := fun z => by
          rw [z] at e1
          cases e1
        refine ⟨_, rfl, 63, rfl, a, _, rfl, s0.seq hS, fun c nc => ⟨c, s0.trans (same_upd nc), ?_, rfl⟩⟩
        rw [upd_same, show (63 : Int) = ((63 : Nat) : Int) from rfl, cutV_to, List.take_of_length_le hsm.1]
        unfold cellsOf
        rw [if_neg e2]
      · have e2 : ns = [] := by
          by_cases z : ns = []
          · exact z
          · refine absurd ?_ e1
            rw [decide_eq_false z]
            rfl
        refine ⟨by show 1 ≤ sizeLine; decide, fun c nc => ⟨c, s0.trans (same_upd nc), ?_, rfl⟩⟩
        rw [upd_same]
        unfold cellsOf
        rw [if_pos e2]
        rfl
    obtain ⟨c, s1, hc, rfl⟩ := hM
    obtain ⟨hl1, hl2⟩ := cells_len hsm
    have hq : SqL K H1 c ((cellsOf ns).map V.int) := .of hc
    obtain ⟨y, hy, ey⟩ := atI_ints (ns := cellsOf ns) (z := (k : Int) % ((cellsOf ns).length : Int)) (Int.emod_nonneg _ (by omega)) (Int.emod_lt_of_pos _ (by omega))
    have el : (((cellsOf ns).map V.int).length : Int) = ((cellsOf ns).length : Int) := by rw [List.length_map]
    refine ⟨_, rfl, _, rfl, _, rfl, c, _, rfl, .inl hq, _, _, rfl, rfl, ?_, c, _, _, _, rfl, rfl, hq, ?_, _, rfl, _, rfl, c, _, rfl, .inl hq, y, k, _, 1048576, rfl, by omega, by omega, cells_bits hsm y hy, by decide, by decide, fun n => ?_⟩
    · show (0 : Int) < (((cellsOf ns).map V.int).length : Int)
      omega
    · show atI ((cellsOf ns).map V.int) ((k : Int) % (((cellsOf ns).map V.int).length : Int)) = _
      rw [el]
      exact ey
    refine ⟨_, rfl, n, rfl, fun p H2 hp s2 => ?_⟩
    have P := prm_in hp
    have lo := P.good.lo
    have hi := P.good.hi
    refine ⟨_, rfl, _, _, rfl, rfl, (show (0 : Int) < 3 by decide), _, _, rfl, rfl, _, rfl, ite2 (fun e => ?_) (fun e => ?_)⟩
    · refine ⟨_, rfl, _, _, rfl, rfl, ⟨by decide, by decide⟩, _, rfl, _, _, rfl, rfl, mulL (by decide) (by decide), _, _, rfl, rfl, (show (0 : Int) < 2 * (p : Int) by omega), ?_⟩
      refine ⟨_, rfl, _, rfl, _, rfl, _, _, rfl, rfl, ⟨by decide, by decide⟩, p, lr p, _, rfl, P.root, fun r H3 R _ s3 => ?_⟩
      exact ⟨_, rfl, by show 3 ≤ sizeLine; decide, fun t nt => q _ t p r _ hp R ((s1.trans (s2.trans s3)).trans (same_upd nt)) upd_same⟩
    · refine ⟨_, rfl, _, _, rfl, rfl, ⟨by decide, by decide⟩, _, _, rfl, rfl, ⟨by decide, by decide, by decide⟩, _, _, rfl, rfl, ?_⟩
      refine ⟨_, rfl, _, rfl, _, rfl, _, _, rfl, rfl, ⟨by decide, by decide⟩, p, lr p, _, rfl, P.root, fun r H3 R _ s3 => ?_⟩
      exact ⟨_, rfl, by show 3 ≤ sizeLine; decide, fun t nt => q _ t p r _ hp R ((s1.trans (s2.trans s3)).trans (same_upd nt)) upd_same⟩
/-- the rows of all columns: a new list -/
def spRows : Sp := fun vs H Q _ => ∃ (p g : Nat) (b : Int), vs = [.int p, .int g, .int b] ∧ Root p g ∧ ∀ (H' : Hp) (a : Addr), Same H H' → H a = none → H' a = some (.lst ((rowsI p g b).map V.int)) → Q (.ref a) H'
theorem ok__law_rows (T : Txt K mg fa fd tk) : FnOk P w K mg base CX0 1 (fa 14) (fd 14) ["_law_prime_here", "_law_root_here", "_law_begin"] spRows := by
  refine T.F__law_rows.ok sc__law_rows (fun vs H Q E h => ?_) (fun cdv A outer s H vs Q E hr h => ?_)
  · obtain ⟨p, g, b, rfl, _⟩ := h
    rfl
  · obtain ⟨p, g, b, rfl, R, q⟩ := h
    have lo := R.good.lo
    have hi := R.good.hi
    have g2 := R.lt
    have hb := be_lt lo b
    have hbc := be_cast lo b
    have step : ∀ n : Nat, g ^ (n + 1) % p = g ^ n % p * g % p := fun n => by rw [Nat.pow_succ, Nat.mod_mul_mod]
    refine ⟨_, (pss_cons (ps_set (i := 3) sc__law_rows.nd rfl (.inl rfl) pe_int)
      (pss_cons (ps_for PassesOwn.never rfl (pi_range1 (by rfl) T.m_range (pa_cons (pe_op op_mod (pv 2) (pe_op op_sub (pv 0) pe_int)) pa_nil)) (pg_name (i := 4) sc__law_rows.nd rfl (.inl rfl)) (pss_one (ps_set (i := 3) sc__law_rows.nd rfl (.inl rfl) (pe_op op_mod (pe_op op_mulB (pv 3) (pv 1)) (pv 0)))))
      (pss_cons (ps_set (i := 5) sc__law_rows.nd rfl (.inl rfl) (pe_lst pa_nil))
      (pss_cons (ps_for PassesOwn.never rfl (pi_range1 (by rfl) T.m_range (pa_cons (pe_op op_sub (pv 0) pe_int) pa_nil)) (pg_name (i := 6) sc__law_rows.nd rfl (.inl rfl)) (pss_cons (ps_expr (pe_bm PySem.F.plainAttrs_list PySem.F.slot_list_append PySem.F.type_list_append mt_append (pv 5) (pa_cons (pe_op op_sub (pv 3) pe_int) pa_nil)))
      (pss_one (ps_set (i := 3) sc__law_rows.nd rfl (.inl rfl) (pe_op op_mod (pe_op op_mulB (pv 3) (pv 1)) (pv 0))))))
      (pss_one (ps_ret (pv 5))))))), ?_⟩
    refine ⟨_, rfl, _, rfl, _, _, rfl, rfl, _, _, rfl, rfl, (show (0 : Int) < (p : Int) - 1 by omega), _, rfl, by omega, by omega, ?_⟩
    refine for_it (walk_range (lo := 0) (n := (b % ((p : Int) - 1)).toNat)) (fun i σ H' => H' = H ∧ ∃ y, σ = [some (.int p), some (.int g), some (.int b), some (.int ((g ^ i % p : Nat) : Int)), y, none, none]) ⟨rfl, none, ?_⟩ (fun _ _ _ _ _ => True.intro) (fun i x σ H4 H5 hi2 hP hY => ?_) (fun σ H4 hP => ?_)
    · rw [Nat.pow_zero, Nat.mod_eq_of_lt (show 1 < p by omega)]
      rfl
    · obtain ⟨rfl, y, rfl⟩ := hP
      obtain ⟨rfl, rfl⟩ := hY
      have hlt := Nat.mod_lt (g ^ i) (show p > 0 by omega)
      refine ⟨_, rfl, _, rfl, _, _, rfl, rfl, mulL (by omega) (by omega), _, rfl, _, _, rfl, rfl, (show (0 : Int) < p by omega), rfl, some (.int (0 + (i : Int))), ?_⟩
      rw [step]
      rfl
    · obtain ⟨rfl, y, rfl⟩ := hP
      refine ⟨Nat.zero_le _, fun a na => ?_⟩
      refine ⟨_, rfl, _, _, rfl, rfl, _, rfl, by omega, by omega, ?_⟩
      refine for_it (walk_range (lo := 0) (n := ((p : Int) - 1).toNat)) (fun i σ H' => Same H4 H' ∧ H' a = some (.lst (((rowsI p g b).take i).map V.int)) ∧ ∃ y z, σ = [some (.int p), some (.int g), some (.int b), some (.int ((rowA p g b i : Nat) : Int)), y, some (.ref a), z]) ⟨same_upd na, upd_same, y, none, rfl⟩ (fun _ _ _ _ _ => True.intro) (fun i x σ H5 H6 hi2 hP hY => ?_) (fun σ H5 hP => ?_)
      · obtain ⟨sm, ha, y, z, rfl⟩ := hP
        obtain ⟨rfl, rfl⟩ := hY
        have hi3 : i < p - 1 := by omega
        have hlt := R.row_lt b i
        refine ⟨_, rfl, .inl ⟨rfl, _, .of ha⟩, _, rfl, _, _, rfl, rfl, a, _, _, rfl, rfl, ha, ?_, ?_⟩
        · rw [List.length_map, List.length_take]
          exact Nat.lt_of_le_of_lt (Nat.min_le_left _ _) (Nat.lt_of_lt_of_le (show i < 2000 by omega) (by decide))
        refine ⟨_, rfl, _, rfl, _, _, rfl, rfl, mulL (by omega) (by omega), _, rfl, _, _, rfl, rfl, (show (0 : Int) < p by omega), fun x o h => ?_, ?_, y, some (.int (0 + (i : Int))), ?_⟩
        · rw [upd_ne (ne_of_none h na)]
          exact sm x o h
        · rw [upd_same, List.take_add_one, rowsI_at hi3, List.map_append]
          rfl
        · have e9 : rowA p g b (i + 1) = rowA p g b i * g % p := by
            unfold rowA
            rw [← Nat.add_assoc, step]
          rw [e9]
          rfl
      · obtain ⟨sm, ha, y, z, rfl⟩ := hP
        rw [List.take_of_length_le (by rw [rowsI_len]; omega)] at ha
        exact ⟨_, rfl, q _ a sm na ha⟩
end
end Lw
namespace Lw
open PySem PySem.Spec PyProof.Rows L2 AD
section
variable {P : Program} {w : World} {K : PySem.W.Frag} {mg : Str → Option Value} {base : Heap}
variable {fa : Nat → Addr} {fd : Nat → FuncData} {tk : Nat → Tok}
/-! ### lists of numbers -/
/-- a list of numbers from 0 on -/
def nats (l : List Nat) : List V := l.map fun n : Nat => V.int (n : Int)
theorem nats_at {l : List Nat} {i : Nat} {x : V} (h : (nats l)[i]? = some x) : ∃ n ∈ l, x = .int (n : Int) := by
  unfold nats at h
  rw [List.getElem?_map] at h
  cases e : l[i]? with
  | none => rw [e] at h; cases h
  | some n =>
    rw [e] at h
    exact ⟨n, List.mem_of_getElem? e, (Option.some.inj h).symm⟩
theorem ints_at {l : List Int} {c : Nat} {z : Int} (h : l[c]? = some z) : atI (l.map V.int) (c : Int) = some (.int z) := by
  refine atI_nat ?_
  rw [List.getElem?_map, h]
  rfl
theorem nats_ints (l : List Nat) : nats l = (l.map fun n : Nat => (n : Int)).map V.int := by
  unfold nats
  rw [List.map_map]
  rfl
theorem rgV_nats (n : Nat) : rgV 0 (n : Int) = nats (List.range n) := by
  unfold rgV nats
  rw [show ((n : Int) - 0).toNat = n by omega]
  refine List.map_congr_left fun i _ => ?_
  rw [Int.zero_add]
theorem iteN {A B : Prop} {a b : V} (h : a = b) (q : B) : if (!decide (a = b)) = true then A else B := iteNS h q
end
end Lw
namespace Lw
open PySem PySem.Spec PyProof.Rows L2 AD
section
variable {P : Program} {w : World} {K : PySem.W.Frag} {mg : Str → Option Value} {base : Heap}
variable {fa : Nat → Addr} {fd : Nat → FuncData} {tk : Nat → Tok}
/-! ### arrow_of -/
def spArrow : Sp := fun vs H Q _ => ∃ (p g d u : Nat) (b : Int), vs = [.int p, .int g, .int b, .int d, .int u] ∧ Root p g ∧ rootB p g = true ∧ 1 ≤ d ∧ d ≤ p - 2 ∧ 1 ≤ u ∧ u < p ∧ ∀ c : Nat, c < p - 1 → rowA p g b c = tgt p g d u → Q (.int c) H
theorem ok_arrow_of (T : Txt K mg fa fd tk) : FnOk P w K mg base CX0 5 (fa 8) (fd 8) ["prime", "root", "begin", "across", "up"] spArrow := by
  refine T.F_arrow_of.ok sc_arrow_of (fun vs H Q E h => ?_) (fun cdv A outer s H vs Q E hr h => ?_)
  · obtain ⟨p, g, d, u, b, rfl, _⟩ := h
    rfl
  · obtain ⟨p, g, d, u, b, rfl, R, hB, d1, d2, u1, u2, q⟩ := h
    have lo := R.good.lo
    have hi := R.good.hi
    have g2 := R.lt
    have t1 := R.tgt_pos d1 d2 u1 u2
    have t2 : tgt p g d u < p := R.tgt_lt
    have a1 := R.good.pow_pos R.ne d
    have a2 := Nat.mod_lt (g ^ d) (show p > 0 by omega)
    refine ⟨_, (pss_cons (ps_expr (pe_call (ok_asked_plan T) (hr.mono (by decide)) (by rfl) T.g_asked_plan T.F_asked_plan.kp T.b_asked_plan .nil pass0 (pa_cons (pv 0) (pa_cons (pv 1) (pa_cons (pv 2) (pa_cons (pe_glob (v := .int 2000) rfl T.g_MOST ⟨_, rfl⟩) pa_nil))))))
      (pss_cons (ps_if (PW.pt (pw_or (pt_not (pt_val (pe_call (ok_is_whole T) (hr.mono (by decide)) (by rfl) T.g_is_whole T.F_is_whole.kp T.b_is_whole .nil pass0 (pa_cons (pv 3) pa_nil)))) (pw_or (pt_not (pt_chain op_le op_le pe_int (pv 3) (pe_op op_sub (pv 0) pe_int))) (pw_or (pt_not (pt_val (pe_call (ok_is_whole T) (hr.mono (by decide)) (by rfl) T.g_is_whole T.F_is_whole.kp T.b_is_whole .nil pass0 (pa_cons (pv 4) pa_nil)))) (pw_or1 (pt_not (pt_chain op_le op_lt pe_int (pv 4) (pv 0)))))))) (pss_one ps_never) pss_nil)
      (pss_cons (ps_set (i := 5) sc_arrow_of.nd rfl (.inl rfl) (pe_op op_sub (pe_call (ok_power T) (hr.mono (by decide)) (by rfl) T.g_power T.F_power.kp T.b_power .nil pass0 (pa_cons (pv 1) (pa_cons (pv 3) (pa_cons (pv 0) pa_nil)))) pe_int))
      (pss_one (ps_ret (pe_call (ok_found_column T) (hr.mono (by decide)) (by rfl) T.g_found_column T.F_found_column.kp T.b_found_column .nil pass0 (pa_cons (pv 0) (pa_cons (pv 1) (pa_cons (pv 2) (pa_cons (pe_op op_sub (pe_op op_mod (pe_op op_mulB (pv 4) (pe_call (ok_power T) (hr.mono (by decide)) (by rfl) T.g_power T.F_power.kp T.b_power .nil pass0 (pa_cons (pv 5) (pa_cons (pe_op op_sub (pv 0) pe_int) (pa_cons (pv 0) pa_nil))))) (pv 0)) pe_int) pa_nil)))))))))), ?_⟩
    refine ⟨_, rfl, _, rfl, _, rfl, p, g, 2000, b, rfl, R, hB, hi, ?_⟩
    refine ⟨_, rfl, _, rfl, .inl ⟨_, rfl, _, rfl, iteF ?_⟩⟩
    refine ⟨_, rfl, _, _, rfl, rfl, _, rfl, ?_⟩
    rw [decide_eq_true (show (1 : Int) ≤ d by omega)]
    refine iteT ⟨_, rfl, _, _, rfl, rfl, _, _, rfl, rfl, _, rfl, ?_⟩
    rw [decide_eq_true (show (d : Int) ≤ (p : Int) - 2 by omega)]
    refine iteF ⟨_, rfl, _, rfl, .inl ⟨_, rfl, _, rfl, iteF ?_⟩⟩
    refine ⟨_, rfl, _, _, rfl, rfl, _, rfl, ?_⟩
    rw [decide_eq_true (show (1 : Int) ≤ u by omega)]
    refine iteT ⟨_, rfl, _, _, rfl, rfl, _, rfl, ?_⟩
    rw [decide_eq_true (show (u : Int) < p by omega)]
    refine iteF ?_
    -- apart
    refine ⟨_, rfl, _, rfl, _, rfl, g, d, p, rfl, by omega, hi, by omega, _, _, rfl, rfl, ?_⟩
    refine ⟨_, rfl, _, rfl, _, rfl, _, rfl, _, rfl, _, rfl, _, _, rfl, rfl, _, rfl, g ^ d % p - 1, p - 2, p, ?_, by omega, hi, by omega, ?_⟩
    · show [V.int (((g ^ d % p : Nat) : Int) - 1), V.int ((p : Int) - 2), V.int (p : Int)] = [V.int ((g ^ d % p - 1 : Nat) : Int), V.int ((p - 2 : Nat) : Int), V.int (p : Int)]
      rw [show ((g ^ d % p - 1 : Nat) : Int) = ((g ^ d % p : Nat) : Int) - 1 by omega, show ((p - 2 : Nat) : Int) = (p : Int) - 2 by omega]
    have et : ((u : Int) * (((g ^ d % p - 1) ^ (p - 2) % p : Nat) : Int)) % (p : Int) = ((tgt p g d u : Nat) : Int) := rfl
    refine ⟨_, _, rfl, rfl, mulL (by omega) (by omega), _, rfl, _, _, rfl, rfl, (show (0 : Int) < p by omega), _, _, rfl, rfl, p, g, b, ((tgt p g d u : Nat) : Int) - 1, rfl, R, by omega, by omega, fun c hc ec => q c hc (by omega)⟩
/-! ### the law's look at an arrow -/
theorem filter_range {n c : Nat} (h : c < n) : (List.range n).filter (fun i => decide (i = c)) = [c] := by
  induction n with
  | zero => omega
  | succ n ih =>
    rw [List.range_succ, List.filter_append]
    by_cases e : c = n
    · subst e
      have h0 : (List.range c).filter (fun i => decide (i = c)) = [] := by
        rw [List.filter_eq_nil_iff]
        intro i hi
        have := List.mem_range.mp hi
        simp
        omega
      rw [h0]
      simp
    · rw [ih (by omega)]
      have : ¬ n = c := fun z => e z.symm
      simp [this]
def spRight (K : PySem.W.Frag) : Sp := fun vs H Q _ => ∃ (p g d u : Nat) (b : Int) (ro : Addr), vs = [.int p, .int g, .int b, .ref ro, .int d, .int u] ∧ SqL K H ro ((rowsI p g b).map V.int) ∧ Root p g ∧ rootB p g = true ∧ 1 ≤ d ∧ d ≤ p - 2 ∧ 1 ≤ u ∧ u < p ∧ ∀ H', Same H H' → Q (.bl true) H'
theorem ok__law_right (T : Txt K mg fa fd tk) : FnOk P w K mg base CX0 6 (fa 15) (fd 15) ["_law_prime_here", "_law_root_here", "_law_begin", "_law_rows_here", "_law_across", "_law_up"] (spRight K) := by
  refine T.F__law_right.ok sc__law_right (fun vs H Q E h => ?_) (fun cdv A outer s H vs Q E hr h => ?_)
  · obtain ⟨p, g, d, u, b, ro, rfl, _⟩ := h
    rfl
  · obtain ⟨p, g, d, u, b, ro, rfl, hro, R, hB, d1, d2, u1, u2, q⟩ := h
    have lo := R.good.lo
    have hi := R.good.hi
    have hu := hr.units
    refine ⟨_, (pss_cons (ps_set (i := 6) sc__law_right.nd rfl (.inl rfl) (pe_call (ok_arrow_of T) (hr.mono (by decide)) (by rfl) T.g_arrow_of T.F_arrow_of.kp T.b_arrow_of .nil pass0 (pa_cons (pv 0) (pa_cons (pv 1) (pa_cons (pv 2) (pa_cons (pv 4) (pa_cons (pv 5) pa_nil)))))))
      (pss_cons (ps_if (PW.pt (pw_or (pt_val (pe_callB call_isi (by rfl) T.m_isinstance (by decide +kernel) (pa_cons (pv 6) (pa_cons (pe_bltn (v := .ty "bool") (u := .type "bool") (by rfl) T.m_bool (by decide +kernel) rfl) pa_nil)))) (pw_or1 (pt_not (pt_chain op_le op_lt pe_int (pv 6) (pe_op op_sub (pv 0) pe_int)))))) (pss_one (ps_ret pe_bl)) pss_nil)
      (pss_cons (ps_set (i := 7) sc__law_right.nd rfl (.inl rfl) (pe_lst pa_nil))
      (C8.pss_cut (ps_set (i := 8) sc__law_right.nd rfl (.inl rfl) (pe_ifExp (pt_cmpR op_lt (pv 0) pe_int (nomark _)) (pe_listRg rfl (by rfl) T.m_list (prg_1 (by rfl) T.m_range (pe_op op_sub (pv 0) pe_int))) (pe_lst (pa_cons (pv 6) pa_nil))))
      (pss_cons (ps_for PassesOwn.never rfl (pi_list (pv 8)) (pg_name (i := 9) sc__law_right.nd rfl (.inl rfl)) (pss_cons (ps_set (i := 10) sc__law_right.nd rfl (.inl rfl) (pe_ix ix_list (pv 3) (pe_op op_mod (pe_op op_add (pv 9) (pv 4)) (pe_op op_sub (pv 0) pe_int)) (fun _ _ => rfl)))
      (pss_one (ps_if (pt_cmpR op_eq (pe_op op_mod (pe_op op_sub (pe_op op_sub (pv 10) (pe_ix ix_list (pv 3) (pv 9) (fun _ _ => rfl))) (pv 5)) (pv 0)) pe_int (nomark _)) (pss_one (ps_expr (pe_bm PySem.F.plainAttrs_list PySem.F.slot_list_append PySem.F.type_list_append mt_append (pv 7) (pa_cons (pv 9) pa_nil)))) pss_nil))))
      (pss_one (ps_ret (pe_cmpR (op_eqL hu) (pv 7) (pe_lst (pa_cons (pv 6) pa_nil)) (nomark _))))))))), ?_⟩
    refine ⟨_, rfl, _, rfl, _, rfl, _, rfl, _, rfl, p, g, d, u, b, rfl, R, hB, d1, d2, u1, u2, fun c hc ec => ?_⟩
    refine ⟨_, rfl, _, _, _, _, false, rfl, .ty _, .base (.int _), kit_ty (by decide +kernel), false, rfl, iteF ?_⟩
    refine ⟨_, rfl, _, _, rfl, rfl, _, rfl, ?_⟩
    rw [decide_eq_true (show (0 : Int) ≤ c by omega)]
    refine iteT ⟨_, rfl, _, _, rfl, rfl, _, _, rfl, rfl, _, rfl, ?_⟩
    rw [decide_eq_true (show (c : Int) < (p : Int) - 1 by omega)]
    refine iteF ?_
    refine ⟨Nat.zero_le _, fun so nso => ?_⟩
    -- what is tried
    refine ⟨fun σ' H' => ∃ (tl : Addr) (cs : List Nat), Same H H' ∧ H' so = some (.lst (nats [])) ∧ so ≠ tl ∧ H' tl = some (.lst (nats cs)) ∧ (∀ x ∈ cs, x < p - 1) ∧ cs.length ≤ 500 ∧ cs.filter (fun x => decide (x = c)) = [c] ∧ σ' = [some (.int p), some (.int g), some (.int b), some (.ref ro), some (.int d), some (.int u), some (.int c), some (.ref so), some (.ref tl), none, none], ?_, fun σ' H1 hM => ?_⟩
    · refine ⟨_, rfl, _, _, rfl, rfl, _, rfl, ite2 (fun e => ?_) (fun e => ?_)⟩
      · have e1 : p < 62 := by have h := dT e; omega
        refine ⟨_, rfl, _, _, rfl, rfl, _, rfl, RgOk.of_le (by omega) (by omega) (by omega) (by omega), fun tl ntl => ?_⟩
        refine ⟨tl, List.range (p - 1), (same_upd nso).trans (same_upd ntl), same_upd ntl _ _ upd_same, ne_of_none upd_same ntl, ?_, fun x hx => List.mem_range.mp hx, by rw [List.length_range]; omega, filter_range hc, rfl⟩
        rw [upd_same, ← rgV_nats, show ((p - 1 : Nat) : Int) = (p : Int) - 1 by omega]
      · refine ⟨_, rfl, by show 1 ≤ sizeLine; decide, fun tl ntl => ?_⟩
        refine ⟨tl, [c], (same_upd nso).trans (same_upd ntl), same_upd ntl _ _ upd_same, ne_of_none upd_same ntl, upd_same, fun x hx => ?_, by show 1 ≤ 500; decide, by simp, rfl⟩
        rw [List.mem_singleton.mp hx]
        exact hc
    obtain ⟨tl, cs, s1, hso, hne, htl, hcs, hcl, hfi, rfl⟩ := hM
    refine ⟨_, rfl, tl, rfl, ⟨_, .of htl⟩, ?_⟩
    refine for_it (walk_list (xs := nats cs)) (fun i σ H' => Same H H' ∧ H' tl = some (.lst (nats cs)) ∧ H' so = some (.lst (nats ((cs.take i).filter (fun x => decide (x = c))))) ∧ ∃ y9 y10, σ = [some (.int p), some (.int g), some (.int b), some (.ref ro), some (.int d), some (.int u), some (.int c), some (.ref so), some (.ref tl), y9, y10]) ⟨s1, htl, hso, none, none, rfl⟩ (fun i σ H' _ hP => .of hP.2.1) (fun i x σ H2 H3 hi hP hY => ?_) (fun σ H2 hP => ?_)
    · obtain ⟨s2, htl2, hso2, y9, y10, rfl⟩ := hP
      obtain ⟨rfl, hx⟩ := hY
      unfold nats at hx
      rw [List.getElem?_map] at hx
      cases hxi : cs[i]? with
      | none => rw [hxi] at hx; cases hx
      | some x' =>
        rw [hxi] at hx
        cases hx
        have hx1 := hcs x' (List.mem_of_getElem? hxi)
        have hro2 := s2.seq hro
        have em : ((x' : Int) + (d : Int)) % ((p : Int) - 1) = (((x' + d) % (p - 1) : Nat) : Int) := by
          rw [Int.natCast_emod, show ((p - 1 : Nat) : Int) = (p : Int) - 1 by omega, Int.natCast_add]
        have hlt : (x' + d) % (p - 1) < p - 1 := Nat.mod_lt _ (by omega)
        have htake : (cs.take (i + 1)).filter (fun x => decide (x = c)) = (cs.take i).filter (fun x => decide (x = c)) ++ (if x' = c then [x'] else []) := by
          rw [List.take_add_one, hxi, List.filter_append]
          by_cases z : x' = c
          · simp [z]
          · simp [z]
        refine ⟨_, rfl, _, rfl, _, rfl, _, _, rfl, rfl, _, rfl, _, _, rfl, rfl, _, _, rfl, rfl, (show (0 : Int) < (p : Int) - 1 by omega), ro, _, _, .int (((rowA p g b ((x' + d) % (p - 1)) : Nat) : Int) - 1), rfl, rfl, hro2, ?_, ?_⟩
        · show atI ((rowsI p g b).map V.int) (((x' : Int) + (d : Int)) % ((p : Int) - 1)) = _
          rw [em]
          exact ints_at (rowsI_at hlt)
        refine ⟨_, rfl, _, rfl, _, rfl, ro, _, _, _, rfl, rfl, hro2, ints_at (rowsI_at hx1), _, _, rfl, rfl, _, rfl, _, _, rfl, rfl, _, rfl, _, _, rfl, rfl, (show (0 : Int) < p by omega), rfl, _, rfl, ite2 (fun e => ?_) (fun e => ?_)⟩
        · rw [dec_vint] at e
          have e1 : x' = c := (R.hit_col d1 d2 hx1 hc ec).mp e
          refine ⟨_, rfl, .inl ⟨rfl, _, .of hso2⟩, _, rfl, so, _, _, rfl, rfl, hso2, ?_, ?_⟩
          · unfold nats
            rw [List.length_map]
            have h3 := List.length_filter_le (fun x => decide (x = c)) (cs.take i)
            rw [List.length_take] at h3
            exact Nat.lt_of_lt_of_le (show _ < 1000 by omega) (by decide)
          refine ⟨fun x o h => ?_, ?_, ?_, _, _, rfl⟩
          · rw [upd_ne (ne_of_none h nso)]
            exact s2 x o h
          · rw [upd_ne hne.symm]
            exact htl2
          · rw [upd_same, htake, if_pos e1]
            unfold nats
            rw [List.map_append]
            rfl
        · rw [dec_vint] at e
          have e1 : ¬ x' = c := fun z => e ((R.hit_col d1 d2 hx1 hc ec).mpr z)
          refine ⟨s2, htl2, ?_, _, _, rfl⟩
          rw [htake, if_neg e1, List.append_nil]
          exact hso2
    · obtain ⟨s2, htl2, hso2, y9, y10, rfl⟩ := hP
      have et : cs.take (nats cs).length = cs := List.take_of_length_le (by unfold nats; rw [List.length_map]; exact Nat.le_refl _)
      rw [et, hfi] at hso2
      refine ⟨_, rfl, _, rfl, by show 1 ≤ sizeLine; decide, fun e ne => ?_⟩
      refine ⟨so, e, [(c : Int)], [(c : Int)], rfl, rfl, .of (same_upd ne _ _ hso2), .of upd_same, ?_⟩
      rw [decide_eq_true rfl]
      exact q _ (s2.trans (same_upd ne))
end
end Lw
namespace Lw
open PySem PySem.Spec PyProof.Rows L2 AD
section
variable {P : Program} {w : World} {K : PySem.W.Frag} {mg : Str → Option Value} {base : Heap}
variable {fa : Nat → Addr} {fd : Nat → FuncData} {tk : Nat → Tok}
/-! ### the law -/
def spLaw (K : PySem.W.Frag) : Sp := fun vs H Q _ => ∃ (a : Addr) (ns : List Int), vs = [.ref a] ∧ SqL K H a (ns.map V.int) ∧ ns.length ≤ 63 ∧ (∀ z ∈ ns, Builtin.Int.intBits z ≤ 1048576) ∧ ∀ H', Q (.bl true) H'
/-- a pair: how far across, how far up -/
def PairOk (p : Nat) (H : Hp) (v : V) : Prop := ∃ (t : Addr) (d u : Nat), v = .ref t ∧ H t = some (.tup [.int (d : Int), .int (u : Int)]) ∧ 1 ≤ d ∧ d ≤ p - 2 ∧ 1 ≤ u ∧ u < p
theorem PairOk.same {p : Nat} {H H' : Hp} {v : V} (s : Same H H') (h : PairOk p H v) : PairOk p H' v := by
  obtain ⟨t, d, u, e, ht, r⟩ := h
  exact ⟨t, d, u, e, s _ _ ht, r⟩
theorem PairOk.upd {p : Nat} {H : Hp} {v : V} {D : Addr} {xs ys : List V} (hD : H D = some (.lst xs)) (h : PairOk p H v) : PairOk p (upd H D (.lst ys)) v := by
  obtain ⟨t, d, u, e, ht, r⟩ := h
  refine ⟨t, d, u, e, ?_, r⟩
  rw [upd_ne (ne_of ht hD (by intro z; cases z))]
  exact ht
theorem PairOk.mk {p : Nat} {H : Hp} {t : Addr} {x y : Int} (ht : H t = some (.tup [.int x, .int y])) (x1 : 1 ≤ x) (x2 : x ≤ (p : Int) - 2) (y1 : 1 ≤ y) (y2 : y < p) : PairOk p H (.ref t) := by
  refine ⟨t, x.toNat, y.toNat, rfl, ?_, by omega, by omega, by omega, by omega⟩
  rw [Int.toNat_of_nonneg (by omega), Int.toNat_of_nonneg (by omega)]
  exact ht
theorem ok_law (T : Txt K mg fa fd tk) : FnOk P w K mg base CX0 7 (fa 16) (fd 16) ["_law_script"] (spLaw K) := by
  refine T.F_law.ok sc_law (fun vs H Q E h => ?_) (fun cdv A outer s H vs Q E hr h => ?_)
  · obtain ⟨a, ns, rfl, _⟩ := h
    rfl
  · obtain ⟨a, ns, rfl, hS, hlen, hbits, q⟩ := h
    have hsm : Small ns := ⟨hlen, hbits⟩
    have hu := hr.units
    refine ⟨_, (pss_cons (ps_for PassesOwn.never rfl (pi_list (pe_lst (pa_cons pe_int (pa_cons pe_int (pa_cons pe_int pa_nil))))) (pg_name (i := 1) sc_law.nd rfl (.inl rfl)) (pss_cons (ps_asg (pe_call (ok__law_plan T) (hr.mono (by decide)) (by rfl) T.g__law_plan T.F__law_plan.kp T.b__law_plan .nil pass0 (pa_cons (pv 0) (pa_cons (pv 1) pa_nil))) (pg_tup rfl (pgs_cons (pg_name (i := 2) sc_law.nd rfl (.inl rfl)) (pgs_cons (pg_name (i := 3) sc_law.nd rfl (.inl rfl)) (pgs_cons (pg_name (i := 4) sc_law.nd rfl (.inl rfl)) pgs_nil)))))
      (pss_cons (ps_set (i := 5) sc_law.nd rfl (.inl rfl) (pe_call (ok__law_rows T) (hr.mono (by decide)) (by rfl) T.g__law_rows T.F__law_rows.kp T.b__law_rows .nil pass0 (pa_cons (pv 2) (pa_cons (pv 3) (pa_cons (pv 4) pa_nil)))))
      (C8.pss_cut (ps_set (i := 6) sc_law.nd rfl (.inl rfl) (pe_op op_add (pe_callB call_abs (by rfl) T.m_abs (by decide +kernel) (pa_cons (pe_callB (cr_sum rfl) (by rfl) T.m_sum (by decide +kernel) (pa_cons (pe_slice sl_list (pv 0) po_none (po_some pe_int)) pa_nil)) pa_nil)) (pv 1)))
      (pss_cons (ps_set (i := 7) sc_law.nd rfl (.inl rfl) (pe_tup (pa_cons (pe_op op_add pe_int (pe_op op_mod (pv 6) (pe_op op_sub (pv 2) pe_int))) (pa_cons (pe_op op_add pe_int (pe_op op_mod (pe_op op_fdiv (pv 6) pe_int) (pe_op op_sub (pv 2) pe_int))) pa_nil))))
      (pss_cons (ps_set (i := 8) sc_law.nd rfl (.inl rfl) (pe_lst (pa_cons (pe_tup (pa_cons pe_int (pa_cons pe_int pa_nil))) (pa_cons (pe_tup (pa_cons (pe_op op_sub (pv 2) pe_int) (pa_cons (pe_op op_sub (pv 2) pe_int) pa_nil))) (pa_cons (pv 7) pa_nil)))))
      (C8.pss_cut (ps_if (pt_cmpR op_lt (pv 2) pe_int (nomark _)) (pss_cons (ps_set (i := 8) sc_law.nd rfl (.inl rfl) (pe_lst pa_nil))
      (pss_one (ps_for PassesOwn.never rfl (pi_range2 (by rfl) T.m_range (pa_cons pe_int (pa_cons (pe_op op_sub (pv 2) pe_int) pa_nil))) (pg_name (i := 9) sc_law.nd rfl (.inr rfl)) (pss_one (ps_expr (pe_bm PySem.F.plainAttrs_list PySem.F.slot_list_extend PySem.F.type_list_extend mt_extend (pv 8) (pa_cons (pe_lc (own := [("_law_up", 10)]) (g := gName 10) (tt := tYes) (by rfl) sc_law.nd (pi_range2 (by rfl) T.m_range (pa_cons pe_int (pa_cons (pv 2) pa_nil))) (blkOk_by (own := [("_law_up", 10)]) (N := ["_law_script", "_law_by", "_law_prime_here", "_law_root_here", "_law_begin", "_law_rows_here", "_law_number_here", "_law_drawn", "_law_pairs", "_law_across", "_law_up"]) (sc := (defScope s_law)) (by decide +kernel)) (fun _ _ _ _ _ => (pg_name (i := 10) sc_law.nd rfl (Or.inl rfl))) (fun _ _ _ _ _ => pts_nil) (fun _ _ _ _ _ => (pe_tup (pa_cons (pv 9) (pa_cons (pv 10) pa_nil))))) pa_nil))))))) pss_nil)
      (pss_one (ps_for PassesOwn.never rfl (pi_list (pv 8)) (pg_tup rfl (pgs_cons (pg_name (i := 9) sc_law.nd rfl (.inr rfl)) (pgs_cons (pg_name (i := 10) sc_law.nd rfl (.inl rfl)) pgs_nil))) (pss_one (ps_if (pt_not (pt_val (pe_call (ok__law_right T) (hr.mono (by decide)) (by rfl) T.g__law_right T.F__law_right.kp T.b__law_right .nil pass0 (pa_cons (pv 2) (pa_cons (pv 3) (pa_cons (pv 4) (pa_cons (pv 5) (pa_cons (pv 9) (pa_cons (pv 10) pa_nil))))))))) (pss_one (ps_ret pe_bl)) pss_nil)))))))))))
      (pss_one (ps_ret (pe_and (pe_cmpR op_eq (pe_call (ok_arrow_of T) (hr.mono (by decide)) (by rfl) T.g_arrow_of T.F_arrow_of.kp T.b_arrow_of .nil pass0 (pa_cons pe_int (pa_cons pe_int (pa_cons pe_int (pa_cons pe_int (pa_cons pe_int pa_nil)))))) pe_int (nomark _)) (pe_one (pe_cmpR op_eq (pe_call (ok_arrow_of T) (hr.mono (by decide)) (by rfl) T.g_arrow_of T.F_arrow_of.kp T.b_arrow_of .nil pass0 (pa_cons pe_int (pa_cons pe_int (pa_cons pe_int (pa_cons pe_int (pa_cons pe_int pa_nil)))))) pe_int (nomark _))))))), ?_⟩
    refine ⟨by show 3 ≤ sizeLine; decide, fun l0 nl0 => ?_⟩
    refine ⟨l0, rfl, ⟨_, .of upd_same⟩, ?_⟩
    refine for_it (walk_list (xs := nats [0, 1, 4])) (fun i σ H' => Same H H' ∧ H' l0 = some (.lst (nats [0, 1, 4])) ∧ ∃ y1 y2 y3 y4 y5 y6 y7 y8 y9 y10, σ = [some (.ref a), y1, y2, y3, y4, y5, y6, y7, y8, y9, y10]) ⟨same_upd nl0, upd_same, none, none, none, none, none, none, none, none, none, none, rfl⟩ (fun i σ H' _ hP => .of hP.2.1) (fun i x σ H2 H3 hi hP hY => ?_) (fun σ H2 hP => ?_)
    · obtain ⟨sm, hl0, y1, y2, y3, y4, y5, y6, y7, y8, y9, y10, rfl⟩ := hP
      obtain ⟨rfl, hx⟩ := hY
      obtain ⟨k, hk, rfl⟩ := nats_at hx
      have hk4 : k ≤ 4 := by
        simp only [List.mem_cons, List.not_mem_nil, or_false] at hk
        omega
      -- the plan
      refine ⟨_, rfl, _, rfl, a, ns, k, rfl, sm.seq hS, hsm, by omega, fun H4 t p g b hp R s4 ht => ?_⟩
      refine ⟨t, _, rfl, .of ht, rfl, _, _, rfl, _, _, rfl, _, _, rfl, rfl, ?_⟩
      have P := prm_in hp
      have hB := R.rootB P
      have lo := P.good.lo
      have hi := P.good.hi
      -- the rows
      refine ⟨_, rfl, _, rfl, _, rfl, p, g, b, rfl, R, fun H5 ro s5 nro hro => ?_⟩
      have sm5 := (sm.trans s4).trans s5
      -- the number
      refine ⟨fun σ' H' => Same H5 H' ∧ ∃ N : Int, 0 ≤ N ∧ σ' = [some (.ref a), some (.int (k : Int)), some (.int (p : Int)), some (.int (g : Int)), some (.int b), some (.ref ro), some (.int N), y7, y8, y9, y10], ?_, fun σ' H6 hM => ?_⟩
      · refine ⟨_, rfl, 63, rfl, a, _, rfl, sm5.seq hS, fun sl nsl => ?_⟩
        refine ⟨sl, ns, rfl, .of ?_, _, rfl, _, rfl, _, _, rfl, rfl, same_upd nsl, _, ?_, rfl⟩
        · rw [upd_same, show (63 : Int) = ((63 : Nat) : Int) from rfl, cutV_to, List.take_of_length_le hlen]
        · split <;> omega
      obtain ⟨s6, N, hN, rfl⟩ := hM
      have p1 : (0 : Int) < (p : Int) - 1 := by omega
      have p2 : (0 : Int) < (p : Int) - 2 := by omega
      have e1 := Int.emod_nonneg N (show (p : Int) - 2 ≠ 0 by omega)
      have e2 := Int.emod_nonneg (N / 11) (show (p : Int) - 1 ≠ 0 by omega)
      have e3 := Int.emod_lt_of_pos N p2
      have e4 := Int.emod_lt_of_pos (N / 11) p1
      -- the drawn pair
      refine ⟨_, rfl, _, rfl, _, _, rfl, rfl, _, _, rfl, rfl, p2, _, _, rfl, rfl, _, rfl, _, _, rfl, rfl, ⟨by decide, by decide⟩, _, rfl, _, _, rfl, rfl, _, _, rfl, rfl, p1, _, _, rfl, rfl, by show 2 ≤ sizeLine; decide, fun dr ndr => ?_⟩
      -- the pairs
      refine ⟨by show 2 ≤ sizeLine; decide, fun t1 nt1 => ?_⟩
      refine ⟨_, rfl, _, _, rfl, rfl, _, rfl, _, _, rfl, rfl, by show 2 ≤ sizeLine; decide, fun t2 nt2 => ?_⟩
      refine ⟨_, rfl, by show 3 ≤ sizeLine; decide, fun pl npl => ?_⟩
      have sA := same_upd (o := .tup [V.int (1 + N % ((p : Int) - 2)), V.int (1 + N / 11 % ((p : Int) - 1))]) ndr
      have sB := same_upd (o := .tup [V.int 1, V.int 1]) nt1
      have sC := same_upd (o := .tup [V.int ((p : Int) - 2), V.int ((p : Int) - 1)]) nt2
      have sD := same_upd (o := .lst [V.ref t1, V.ref t2, V.ref dr]) npl
      have k1 := PairOk.mk (p := p) ((sC.trans sD) _ _ upd_same) (by omega) (by omega) (by omega) (by omega)
      have k2 := PairOk.mk (p := p) (sD _ _ upd_same) (by omega) (by omega) (by omega) (by omega)
      have k3 := PairOk.mk (p := p) (((sB.trans sC).trans sD) _ _ upd_same) (by omega) (by omega) (by omega) (by omega)
      have sE := ((sA.trans sB).trans sC).trans sD
      refine ⟨fun σ' H' => ∃ (pl : Addr) (vs : List V) (y9 y10 : Option V), Same H6 H' ∧ H' pl = some (.lst vs) ∧ (∀ v ∈ vs, PairOk p H' v) ∧ σ' = [some (.ref a), some (.int (k : Int)), some (.int (p : Int)), some (.int (g : Int)), some (.int b), some (.ref ro), some (.int N), some (.ref dr), some (.ref pl), y9, y10], ?_, fun σ' H7 hM => ?_⟩
      · refine ⟨_, rfl, _, _, rfl, rfl, _, rfl, ite2 (fun e => ?_) (fun e => ?_)⟩
        · have e12 : p < 12 := by have h := dT e; omega
          refine ⟨Nat.zero_le _, fun pm npm => ?_⟩
          refine ⟨_, rfl, _, _, rfl, rfl, _, _, rfl, ⟨by decide, by decide, by omega, by omega⟩, ?_⟩
          refine for_it (walk_range (lo := 1) (n := ((p : Int) - 1 - 1).toNat)) (fun j σ H' => Same H6 H' ∧ (∃ vs, H' pm = some (.lst vs) ∧ vs.length ≤ j * 12 ∧ ∀ v ∈ vs, PairOk p H' v) ∧ ∃ y9, σ = [some (.ref a), some (.int (k : Int)), some (.int (p : Int)), some (.int (g : Int)), some (.int b), some (.ref ro), some (.int N), some (.ref dr), some (.ref pm), y9, y10]) ⟨sE.trans (same_upd npm), ⟨[], upd_same, by simp, fun v hv => nomatch hv⟩, y9, rfl⟩ (fun _ _ _ _ _ => True.intro) (fun j x σ H8 H9 hj hP hY => ?_) (fun σ H8 hP => ?_)
          · obtain ⟨s8, ⟨vs, hpm, hvl, hvs⟩, w9, rfl⟩ := hP
            obtain ⟨rfl, rfl⟩ := hY
            refine ⟨_, rfl, .inl ⟨rfl, _, .of hpm⟩, _, rfl, _, _, rfl, ⟨by decide, by decide, by omega, by omega⟩, fun D nD => ?_⟩
            have hpD : pm ≠ D := ne_of_none hpm nD
            refine lc_it (walk_range (lo := 1) (n := ((p : Int) - 1).toNat)) (fun i H' => Same H9 H' ∧ ∃ ws, H' D = some (.lst ws) ∧ ws.length = i ∧ ∀ v ∈ ws, PairOk p H' v) ⟨same_upd nD, [], upd_same, rfl, fun v hv => nomatch hv⟩ (fun _ _ _ _ => True.intro) (fun i x H10 H11 hi hP hY => ?_) (fun H10 hP => ?_)
            · obtain ⟨s10, ws, hD, hwl, hws⟩ := hP
              obtain ⟨rfl, rfl⟩ := hY
              refine ⟨rfl, ?_⟩
              refine ⟨_, rfl, _, rfl, by show 2 ≤ sizeLine; decide, fun t nt => ?_⟩
              have hDt := same_upd (o := .tup [V.int (1 + (j : Int)), V.int (1 + (i : Int))]) nt _ _ hD
              refine ⟨_, hDt, ?_, fun x o h => ?_, _, upd_same, ?_, fun v hv => ?_⟩
              · rw [hwl]
                exact Nat.lt_of_lt_of_le (show i < 100 by omega) (by decide)
              · rw [upd_ne (ne_of_none h nD)]
                exact same_upd nt _ _ (s10 _ _ h)
              · rw [List.length_append, hwl]
                rfl
              · refine PairOk.upd hDt ?_
                rcases List.mem_append.mp hv with h | h
                · exact (hws v h).same (same_upd nt)
                · rw [List.mem_singleton.mp h]
                  refine ⟨t, 1 + j, 1 + i, rfl, ?_, by omega, by omega, by omega, by omega⟩
                  rw [upd_same, Int.natCast_add, Int.natCast_add]
                  rfl
            · obtain ⟨s10, ws, hD, hwl, hws⟩ := hP
              have hpm2 := s10 _ _ hpm
              refine ⟨pm, D, vs, ws, rfl, rfl, hpm2, hD, ?_, fun x o h => ?_, ⟨vs ++ ws, upd_same, ?_, fun v hv => ?_⟩, _, rfl⟩
              · exact Nat.le_trans (show _ ≤ 1000 by omega) (by decide)
              · by_cases z : x = pm
                · subst z
                  exact absurd (((sE) x o h).symm.trans npm) (by simp)
                · rw [upd_ne z]
                  exact s10 _ _ (s8 _ _ h)
              · rw [List.length_append]
                omega
              · refine PairOk.upd hpm2 ?_
                rcases List.mem_append.mp hv with h | h
                · exact (hvs v h).same s10
                · exact hws v h
          · obtain ⟨s8, ⟨vs, hpm, hvl, hvs⟩, w9, rfl⟩ := hP
            exact ⟨pm, vs, w9, y10, s8, hpm, hvs, rfl⟩
        · refine ⟨pl, _, y9, y10, sE, upd_same, fun v hv => ?_, rfl⟩
          simp only [List.mem_cons, List.not_mem_nil, or_false] at hv
          rcases hv with rfl | rfl | rfl
          · exact k1
          · exact k2
          · exact k3
      obtain ⟨pl2, vs, w9, w10, s7, hpl, hvs, rfl⟩ := hM
      have sm7 := (sm5.trans s6).trans s7
      have hro7 := (s6.trans s7) _ _ hro
      have hl07 := (((s4.trans s5).trans s6).trans s7) _ _ hl0
      refine ⟨_, rfl, pl2, rfl, ⟨_, .of hpl⟩, ?_⟩
      refine for_it (walk_list (xs := vs)) (fun i σ H' => Same H7 H' ∧ ∃ y9 y10, σ = [some (.ref a), some (.int (k : Int)), some (.int (p : Int)), some (.int (g : Int)), some (.int b), some (.ref ro), some (.int N), some (.ref dr), some (.ref pl2), y9, y10]) ⟨Same.refl _, w9, w10, rfl⟩ (fun i σ H' _ hP => .of (hP.1 _ _ hpl)) (fun i x σ H8 H9 hi hP hY => ?_) (fun σ H8 hP => ?_)
      · obtain ⟨s8, v9, v10, rfl⟩ := hP
        obtain ⟨rfl, hx⟩ := hY
        obtain ⟨t3, d, u, rfl, ht3, d1, d2, u1, u2⟩ := (hvs x (List.mem_of_getElem? hx)).same s8
        refine ⟨t3, _, rfl, .of ht3, rfl, _, _, rfl, _, _, rfl, rfl, ?_⟩
        refine ⟨_, rfl, _, rfl, _, rfl, _, rfl, _, rfl, _, rfl, p, g, d, u, b, ro, rfl, .of (s8 _ _ hro7), R, hB, d1, d2, u1, u2, fun H10 s10 => ?_⟩
        exact ⟨_, rfl, iteF ⟨s8.trans s10, _, _, rfl⟩⟩
      · obtain ⟨s8, v9, v10, rfl⟩ := hP
        exact ⟨sm7.trans s8, s8 _ _ hl07, _, _, _, _, _, _, _, _, _, _, rfl⟩
    · obtain ⟨sm, hl0, y1, y2, y3, y4, y5, y6, y7, y8, y9, y10, rfl⟩ := hP
      refine ⟨7, 3, 1, 2, 0, rfl, root73, by decide +kernel, by decide, by decide, by decide, by decide, fun c hc ec => ?_⟩
      have e1 : c = 0 := root73.row_inj (b := 0) hc (by decide) (ec.trans (by decide +kernel))
      subst e1
      refine ⟨rfl, true, rfl, iteT ?_⟩
      refine ⟨3, 2, 1, 1, 0, rfl, root32, by decide +kernel, by decide, by decide, by decide, by decide, fun c hc ec => ?_⟩
      have e1 : c = 0 := root32.row_inj (b := 0) hc (by decide) (ec.trans (by decide +kernel))
      subst e1
      exact ⟨rfl, q _⟩
end
end Lw
namespace Lw
open PySem PySem.Spec PyProof.Rows L2 AD
/-! ### what the top has written; the end -/
theorem all_mk {l : PySem.W.OpenLaw} {w : World} {K : PySem.W.Frag} {h : Heap} {mg : Str → Option Value} {fL f0 f1 f2 f3 f4 f5 f6 f7 f8 f9 f10 f11 f12 f13 f14 f15 f16 : Addr}
    {od0 an0 od1 an1 od2 an2 od3 an3 od4 an4 od5 an5 od6 an6 od7 an7 od8 an8 od9 an9 od10 an10 od11 an11 od12 an12 od13 an13 od14 an14 od15 an15 od16 an16 : Option Addr} {sl0 sl1 sl2 sl3 sl4 sl5 sl6 sl7 sl8 sl9 sl10 sl11 sl12 sl13 sl14 sl15 sl16 : Array (Option Value)} {oc0 kV0 dc0 pm0 cd0 ct0 oc1 kV1 dc1 pm1 cd1 ct1 oc2 kV2 dc2 pm2 cd2 ct2 oc3 kV3 dc3 pm3 cd3 ct3 oc4 kV4 dc4 pm4 cd4 ct4 oc5 kV5 dc5 pm5 cd5 ct5 oc6 kV6 dc6 pm6 cd6 ct6 oc7 kV7 dc7 pm7 cd7 ct7 oc8 kV8 dc8 pm8 cd8 ct8 oc9 kV9 dc9 pm9 cd9 ct9 oc10 kV10 dc10 pm10 cd10 ct10 oc11 kV11 dc11 pm11 cd11 ct11 oc12 kV12 dc12 pm12 cd12 ct12 oc13 kV13 dc13 pm13 cd13 ct13 oc14 kV14 dc14 pm14 cd14 ct14 oc15 kV15 dc15 pm15 cd15 ct15 oc16 kV16 dc16 pm16 cd16 ct16 : Value} {t_MOST : Tok}
    (X : K.In h) (G : h.Ns mainGlobals mg) (hfa : mg "law" = some (.ref fL))
    (z_ValueError : PySem.W.nsIn K mainGlobals "ValueError" = some none)
    (z_abs : PySem.W.nsIn K mainGlobals "abs" = some none)
    (z_bool : PySem.W.nsIn K mainGlobals "bool" = some none)
    (z_int : PySem.W.nsIn K mainGlobals "int" = some none)
    (z_isinstance : PySem.W.nsIn K mainGlobals "isinstance" = some none)
    (z_len : PySem.W.nsIn K mainGlobals "len" = some none)
    (z_list : PySem.W.nsIn K mainGlobals "list" = some none)
    (z_range : PySem.W.nsIn K mainGlobals "range" = some none)
    (z_sum : PySem.W.nsIn K mainGlobals "sum" = some none)
    (y_MOST : PySem.W.nsIn K mainGlobals "MOST" = some (some (.int 2000 t_MOST)))
    (a0 : PySem.W.nsIn K mainGlobals "is_whole" = some (some (.ref f0)))
    (l0 : K.lookup f0 = some ⟨oc0, od0, .func (PySem.W.fnOf "is_whole" "is_whole" (defArgs s_is_whole) (defBody s_is_whole) (defScope s_is_whole) .none kV0 dc0 pm0 an0 cd0 ct0), sl0⟩)
    (c0 : PySem.W.codeIn K cd0 "is_whole" = true)
    (k0 : PySem.W.keepIn K (.ref f0) = true)
    (a1 : PySem.W.nsIn K mainGlobals "is_prime" = some (some (.ref f1)))
    (l1 : K.lookup f1 = some ⟨oc1, od1, .func (PySem.W.fnOf "is_prime" "is_prime" (defArgs s_is_prime) (defBody s_is_prime) (defScope s_is_prime) .none kV1 dc1 pm1 an1 cd1 ct1), sl1⟩)
    (c1 : PySem.W.codeIn K cd1 "is_prime" = true)
    (k1 : PySem.W.keepIn K (.ref f1) = true)
    (a2 : PySem.W.nsIn K mainGlobals "asked_prime" = some (some (.ref f2)))
    (l2 : K.lookup f2 = some ⟨oc2, od2, .func (PySem.W.fnOf "asked_prime" "asked_prime" (defArgs s_asked_prime) (defBody s_asked_prime) (defScope s_asked_prime) .none kV2 dc2 pm2 an2 cd2 ct2), sl2⟩)
    (c2 : PySem.W.codeIn K cd2 "asked_prime" = true)
    (k2 : PySem.W.keepIn K (.ref f2) = true)
    (a3 : PySem.W.nsIn K mainGlobals "power" = some (some (.ref f3)))
    (l3 : K.lookup f3 = some ⟨oc3, od3, .func (PySem.W.fnOf "power" "power" (defArgs s_power) (defBody s_power) (defScope s_power) .none kV3 dc3 pm3 an3 cd3 ct3), sl3⟩)
    (c3 : PySem.W.codeIn K cd3 "power" = true)
    (k3 : PySem.W.keepIn K (.ref f3) = true)
    (a4 : PySem.W.nsIn K mainGlobals "root_of" = some (some (.ref f4)))
    (l4 : K.lookup f4 = some ⟨oc4, od4, .func (PySem.W.fnOf "root_of" "root_of" (defArgs s_root_of) (defBody s_root_of) (defScope s_root_of) .none kV4 dc4 pm4 an4 cd4 ct4), sl4⟩)
    (c4 : PySem.W.codeIn K cd4 "root_of" = true)
    (k4 : PySem.W.keepIn K (.ref f4) = true)
    (a5 : PySem.W.nsIn K mainGlobals "asked_root" = some (some (.ref f5)))
    (l5 : K.lookup f5 = some ⟨oc5, od5, .func (PySem.W.fnOf "asked_root" "asked_root" (defArgs s_asked_root) (defBody s_asked_root) (defScope s_asked_root) .none kV5 dc5 pm5 an5 cd5 ct5), sl5⟩)
    (c5 : PySem.W.codeIn K cd5 "asked_root" = true)
    (k5 : PySem.W.keepIn K (.ref f5) = true)
    (a6 : PySem.W.nsIn K mainGlobals "asked_plan" = some (some (.ref f6)))
    (l6 : K.lookup f6 = some ⟨oc6, od6, .func (PySem.W.fnOf "asked_plan" "asked_plan" (defArgs s_asked_plan) (defBody s_asked_plan) (defScope s_asked_plan) .none kV6 dc6 pm6 an6 cd6 ct6), sl6⟩)
    (c6 : PySem.W.codeIn K cd6 "asked_plan" = true)
    (k6 : PySem.W.keepIn K (.ref f6) = true)
    (a7 : PySem.W.nsIn K mainGlobals "found_column" = some (some (.ref f7)))
    (l7 : K.lookup f7 = some ⟨oc7, od7, .func (PySem.W.fnOf "found_column" "found_column" (defArgs s_found_column) (defBody s_found_column) (defScope s_found_column) .none kV7 dc7 pm7 an7 cd7 ct7), sl7⟩)
    (c7 : PySem.W.codeIn K cd7 "found_column" = true)
    (k7 : PySem.W.keepIn K (.ref f7) = true)
    (a8 : PySem.W.nsIn K mainGlobals "arrow_of" = some (some (.ref f8)))
    (l8 : K.lookup f8 = some ⟨oc8, od8, .func (PySem.W.fnOf "arrow_of" "arrow_of" (defArgs s_arrow_of) (defBody s_arrow_of) (defScope s_arrow_of) .none kV8 dc8 pm8 an8 cd8 ct8), sl8⟩)
    (c8 : PySem.W.codeIn K cd8 "arrow_of" = true)
    (k8 : PySem.W.keepIn K (.ref f8) = true)
    (a9 : PySem.W.nsIn K mainGlobals "_law_number" = some (some (.ref f9)))
    (l9 : K.lookup f9 = some ⟨oc9, od9, .func (PySem.W.fnOf "_law_number" "_law_number" (defArgs s__law_number) (defBody s__law_number) (defScope s__law_number) .none kV9 dc9 pm9 an9 cd9 ct9), sl9⟩)
    (c9 : PySem.W.codeIn K cd9 "_law_number" = true)
    (k9 : PySem.W.keepIn K (.ref f9) = true)
    (a10 : PySem.W.nsIn K mainGlobals "_law_prime" = some (some (.ref f10)))
    (l10 : K.lookup f10 = some ⟨oc10, od10, .func (PySem.W.fnOf "_law_prime" "_law_prime" (defArgs s__law_prime) (defBody s__law_prime) (defScope s__law_prime) .none kV10 dc10 pm10 an10 cd10 ct10), sl10⟩)
    (c10 : PySem.W.codeIn K cd10 "_law_prime" = true)
    (k10 : PySem.W.keepIn K (.ref f10) = true)
    (a11 : PySem.W.nsIn K mainGlobals "_law_powers" = some (some (.ref f11)))
    (l11 : K.lookup f11 = some ⟨oc11, od11, .func (PySem.W.fnOf "_law_powers" "_law_powers" (defArgs s__law_powers) (defBody s__law_powers) (defScope s__law_powers) .none kV11 dc11 pm11 an11 cd11 ct11), sl11⟩)
    (c11 : PySem.W.codeIn K cd11 "_law_powers" = true)
    (k11 : PySem.W.keepIn K (.ref f11) = true)
    (a12 : PySem.W.nsIn K mainGlobals "_law_root" = some (some (.ref f12)))
    (l12 : K.lookup f12 = some ⟨oc12, od12, .func (PySem.W.fnOf "_law_root" "_law_root" (defArgs s__law_root) (defBody s__law_root) (defScope s__law_root) .none kV12 dc12 pm12 an12 cd12 ct12), sl12⟩)
    (c12 : PySem.W.codeIn K cd12 "_law_root" = true)
    (k12 : PySem.W.keepIn K (.ref f12) = true)
    (a13 : PySem.W.nsIn K mainGlobals "_law_plan" = some (some (.ref f13)))
    (l13 : K.lookup f13 = some ⟨oc13, od13, .func (PySem.W.fnOf "_law_plan" "_law_plan" (defArgs s__law_plan) (defBody s__law_plan) (defScope s__law_plan) .none kV13 dc13 pm13 an13 cd13 ct13), sl13⟩)
    (c13 : PySem.W.codeIn K cd13 "_law_plan" = true)
    (k13 : PySem.W.keepIn K (.ref f13) = true)
    (a14 : PySem.W.nsIn K mainGlobals "_law_rows" = some (some (.ref f14)))
    (l14 : K.lookup f14 = some ⟨oc14, od14, .func (PySem.W.fnOf "_law_rows" "_law_rows" (defArgs s__law_rows) (defBody s__law_rows) (defScope s__law_rows) .none kV14 dc14 pm14 an14 cd14 ct14), sl14⟩)
    (c14 : PySem.W.codeIn K cd14 "_law_rows" = true)
    (k14 : PySem.W.keepIn K (.ref f14) = true)
    (a15 : PySem.W.nsIn K mainGlobals "_law_right" = some (some (.ref f15)))
    (l15 : K.lookup f15 = some ⟨oc15, od15, .func (PySem.W.fnOf "_law_right" "_law_right" (defArgs s__law_right) (defBody s__law_right) (defScope s__law_right) .none kV15 dc15 pm15 an15 cd15 ct15), sl15⟩)
    (c15 : PySem.W.codeIn K cd15 "_law_right" = true)
    (k15 : PySem.W.keepIn K (.ref f15) = true)
    (a16 : PySem.W.nsIn K mainGlobals "law" = some (some (.ref f16)))
    (l16 : K.lookup f16 = some ⟨oc16, od16, .func (PySem.W.fnOf "law" "law" (defArgs s_law) (defBody s_law) (defScope s_law) .none kV16 dc16 pm16 an16 cd16 ct16), sl16⟩)
    (c16 : PySem.W.codeIn K cd16 "law" = true)
    (k16 : PySem.W.keepIn K (.ref f16) = true)
    : ∃ fd : FuncData, (∀ (s : Shared) (v : Value), BindsTo s fd ⟨[v], []⟩ [("_law_script", v)]) ∧ ∀ base : Heap, K.In base → base.Ns mainGlobals mg → FnOk l.prog w K mg base CX0 7 fL fd ["_law_script"] (spLaw K) := by
  have e := hfa.symm.trans (PySem.W.mg_of X G a16)
  cases e
  have F0 := fun_mk (st := s_is_whole) l0 c0 k0
  have b0 := F0.binds (ps := ["thing"]) fun _ _ _ _ _ _ us hl => match us, hl with | [_], _ => rfl
  have F1 := fun_mk (st := s_is_prime) l1 c1 k1
  have b1 := F1.binds (ps := ["number"]) fun _ _ _ _ _ _ us hl => match us, hl with | [_], _ => rfl
  have F2 := fun_mk (st := s_asked_prime) l2 c2 k2
  have b2 := F2.binds (ps := ["prime", "most"]) fun _ _ _ _ _ _ us hl => match us, hl with | [_, _], _ => rfl
  have F3 := fun_mk (st := s_power) l3 c3 k3
  have b3 := F3.binds (ps := ["number", "times", "prime"]) fun _ _ _ _ _ _ us hl => match us, hl with | [_, _, _], _ => rfl
  have F4 := fun_mk (st := s_root_of) l4 c4 k4
  have b4 := F4.binds (ps := ["prime", "number"]) fun _ _ _ _ _ _ us hl => match us, hl with | [_, _], _ => rfl
  have F5 := fun_mk (st := s_asked_root) l5 c5 k5
  have b5 := F5.binds (ps := ["prime", "root"]) fun _ _ _ _ _ _ us hl => match us, hl with | [_, _], _ => rfl
  have F6 := fun_mk (st := s_asked_plan) l6 c6 k6
  have b6 := F6.binds (ps := ["prime", "root", "begin", "most"]) fun _ _ _ _ _ _ us hl => match us, hl with | [_, _, _, _], _ => rfl
  have F7 := fun_mk (st := s_found_column) l7 c7 k7
  have b7 := F7.binds (ps := ["prime", "root", "begin", "row"]) fun _ _ _ _ _ _ us hl => match us, hl with | [_, _, _, _], _ => rfl
  have F8 := fun_mk (st := s_arrow_of) l8 c8 k8
  have b8 := F8.binds (ps := ["prime", "root", "begin", "across", "up"]) fun _ _ _ _ _ _ us hl => match us, hl with | [_, _, _, _, _], _ => rfl
  have F9 := fun_mk (st := s__law_number) l9 c9 k9
  have b9 := F9.binds (ps := ["_law_cell", "_law_at", "_law_whole"]) fun _ _ _ _ _ _ us hl => match us, hl with | [_, _, _], _ => rfl
  have F10 := fun_mk (st := s__law_prime) l10 c10 k10
  have b10 := F10.binds (ps := ["_law_number_here"]) fun _ _ _ _ _ _ us hl => match us, hl with | [_], _ => rfl
  have F11 := fun_mk (st := s__law_powers) l11 c11 k11
  have b11 := F11.binds (ps := ["_law_prime_here", "_law_number_here"]) fun _ _ _ _ _ _ us hl => match us, hl with | [_, _], _ => rfl
  have F12 := fun_mk (st := s__law_root) l12 c12 k12
  have b12 := F12.binds (ps := ["_law_prime_here", "_law_number_here"]) fun _ _ _ _ _ _ us hl => match us, hl with | [_, _], _ => rfl
  have F13 := fun_mk (st := s__law_plan) l13 c13 k13
  have b13 := F13.binds (ps := ["_law_script", "_law_by"]) fun _ _ _ _ _ _ us hl => match us, hl with | [_, _], _ => rfl
  have F14 := fun_mk (st := s__law_rows) l14 c14 k14
  have b14 := F14.binds (ps := ["_law_prime_here", "_law_root_here", "_law_begin"]) fun _ _ _ _ _ _ us hl => match us, hl with | [_, _, _], _ => rfl
  have F15 := fun_mk (st := s__law_right) l15 c15 k15
  have b15 := F15.binds (ps := ["_law_prime_here", "_law_root_here", "_law_begin", "_law_rows_here", "_law_across", "_law_up"]) fun _ _ _ _ _ _ us hl => match us, hl with | [_, _, _, _, _, _], _ => rfl
  have F16 := fun_mk (st := s_law) l16 c16 k16
  have b16 := F16.binds (ps := ["_law_script"]) fun _ _ _ _ _ _ us hl => match us, hl with | [_], _ => rfl
  have T : Txt K mg (fun i => [f0, f1, f2, f3, f4, f5, f6, f7, f8, f9, f10, f11, f12, f13, f14, f15, fL].getD i 0) (fun i => [PySem.W.fnOf "is_whole" "is_whole" (defArgs s_is_whole) (defBody s_is_whole) (defScope s_is_whole) .none kV0 dc0 pm0 an0 cd0 ct0,
      PySem.W.fnOf "is_prime" "is_prime" (defArgs s_is_prime) (defBody s_is_prime) (defScope s_is_prime) .none kV1 dc1 pm1 an1 cd1 ct1,
      PySem.W.fnOf "asked_prime" "asked_prime" (defArgs s_asked_prime) (defBody s_asked_prime) (defScope s_asked_prime) .none kV2 dc2 pm2 an2 cd2 ct2,
      PySem.W.fnOf "power" "power" (defArgs s_power) (defBody s_power) (defScope s_power) .none kV3 dc3 pm3 an3 cd3 ct3,
      PySem.W.fnOf "root_of" "root_of" (defArgs s_root_of) (defBody s_root_of) (defScope s_root_of) .none kV4 dc4 pm4 an4 cd4 ct4,
      PySem.W.fnOf "asked_root" "asked_root" (defArgs s_asked_root) (defBody s_asked_root) (defScope s_asked_root) .none kV5 dc5 pm5 an5 cd5 ct5,
      PySem.W.fnOf "asked_plan" "asked_plan" (defArgs s_asked_plan) (defBody s_asked_plan) (defScope s_asked_plan) .none kV6 dc6 pm6 an6 cd6 ct6,
      PySem.W.fnOf "found_column" "found_column" (defArgs s_found_column) (defBody s_found_column) (defScope s_found_column) .none kV7 dc7 pm7 an7 cd7 ct7,
      PySem.W.fnOf "arrow_of" "arrow_of" (defArgs s_arrow_of) (defBody s_arrow_of) (defScope s_arrow_of) .none kV8 dc8 pm8 an8 cd8 ct8,
      PySem.W.fnOf "_law_number" "_law_number" (defArgs s__law_number) (defBody s__law_number) (defScope s__law_number) .none kV9 dc9 pm9 an9 cd9 ct9,
      PySem.W.fnOf "_law_prime" "_law_prime" (defArgs s__law_prime) (defBody s__law_prime) (defScope s__law_prime) .none kV10 dc10 pm10 an10 cd10 ct10,
      PySem.W.fnOf "_law_powers" "_law_powers" (defArgs s__law_powers) (defBody s__law_powers) (defScope s__law_powers) .none kV11 dc11 pm11 an11 cd11 ct11,
      PySem.W.fnOf "_law_root" "_law_root" (defArgs s__law_root) (defBody s__law_root) (defScope s__law_root) .none kV12 dc12 pm12 an12 cd12 ct12,
      PySem.W.fnOf "_law_plan" "_law_plan" (defArgs s__law_plan) (defBody s__law_plan) (defScope s__law_plan) .none kV13 dc13 pm13 an13 cd13 ct13,
      PySem.W.fnOf "_law_rows" "_law_rows" (defArgs s__law_rows) (defBody s__law_rows) (defScope s__law_rows) .none kV14 dc14 pm14 an14 cd14 ct14,
      PySem.W.fnOf "_law_right" "_law_right" (defArgs s__law_right) (defBody s__law_right) (defScope s__law_right) .none kV15 dc15 pm15 an15 cd15 ct15,
      PySem.W.fnOf "law" "law" (defArgs s_law) (defBody s_law) (defScope s_law) .none kV16 dc16 pm16 an16 cd16 ct16].getD i (PySem.W.fnOf "is_whole" "is_whole" (defArgs s_is_whole) (defBody s_is_whole) (defScope s_is_whole) .none kV0 dc0 pm0 an0 cd0 ct0)) (fun i => [t_MOST].getD i default) := {
    m_ValueError := PySem.W.mg_none_of X G z_ValueError
    m_abs := PySem.W.mg_none_of X G z_abs
    m_bool := PySem.W.mg_none_of X G z_bool
    m_int := PySem.W.mg_none_of X G z_int
    m_isinstance := PySem.W.mg_none_of X G z_isinstance
    m_len := PySem.W.mg_none_of X G z_len
    m_list := PySem.W.mg_none_of X G z_list
    m_range := PySem.W.mg_none_of X G z_range
    m_sum := PySem.W.mg_none_of X G z_sum
    g_MOST := PySem.W.mg_of X G y_MOST
    g_is_whole := PySem.W.mg_of X G a0, F_is_whole := F0, b_is_whole := b0
    g_is_prime := PySem.W.mg_of X G a1, F_is_prime := F1, b_is_prime := b1
    g_asked_prime := PySem.W.mg_of X G a2, F_asked_prime := F2, b_asked_prime := b2
    g_power := PySem.W.mg_of X G a3, F_power := F3, b_power := b3
    g_root_of := PySem.W.mg_of X G a4, F_root_of := F4, b_root_of := b4
    g_asked_root := PySem.W.mg_of X G a5, F_asked_root := F5, b_asked_root := b5
    g_asked_plan := PySem.W.mg_of X G a6, F_asked_plan := F6, b_asked_plan := b6
    g_found_column := PySem.W.mg_of X G a7, F_found_column := F7, b_found_column := b7
    g_arrow_of := PySem.W.mg_of X G a8, F_arrow_of := F8, b_arrow_of := b8
    g__law_number := PySem.W.mg_of X G a9, F__law_number := F9, b__law_number := b9
    g__law_prime := PySem.W.mg_of X G a10, F__law_prime := F10, b__law_prime := b10
    g__law_powers := PySem.W.mg_of X G a11, F__law_powers := F11, b__law_powers := b11
    g__law_root := PySem.W.mg_of X G a12, F__law_root := F12, b__law_root := b12
    g__law_plan := PySem.W.mg_of X G a13, F__law_plan := F13, b__law_plan := b13
    g__law_rows := PySem.W.mg_of X G a14, F__law_rows := F14, b__law_rows := b14
    g__law_right := PySem.W.mg_of X G a15, F__law_right := F15, b__law_right := b15
    g_law := PySem.W.mg_of X G a16, F_law := F16, b_law := b16
  }
  exact ⟨PySem.W.fnOf "law" "law" (defArgs s_law) (defBody s_law) (defScope s_law) .none kV16 dc16 pm16 an16 cd16 ct16, fun s v => .of_eq rfl, fun base _ _ => ok_law T⟩
end Lw
open PySem PySem.W PyProof.Rows
set_option maxHeartbeats 0 in
theorem PySem.Challenge.cw_arrowdots_k03_whole_arrows_holds : PySem.Challenge.rw_arrowdots_k03_whole_arrows.Holds := by
  w_on; o_law; k_head; (case hw => w_witness2)
  k_fill
  refine L2.walk_ofB (l := PySem.Challenge.rw_arrowdots_k03_whole_arrows) (n := 63) (k := 7) (x := "_law_script") (CX := fun _ => L2.CX0) (sp := fun w => Lw.spLaw _) rfl (by decide) rfl ⟨rfl, by decide, by decide⟩ (fun w h Y => PySem.W.kIn_of Y) ?F (fun _ _ a ns hl hb _ hS => ⟨a, ns, rfl, hS, hl, hb, fun _ => rfl⟩) (fun _ _ _ _ _ h => h)
  case F =>
    intro w mg fa h KX G hmg
    refine' Lw.all_mk KX G hmg ?z_ValueError ?z_abs ?z_bool ?z_int ?z_isinstance ?z_len ?z_list ?z_range ?z_sum ?y_MOST ?a0 ?l0 ?c0 ?k0 ?a1 ?l1 ?c1 ?k1 ?a2 ?l2 ?c2 ?k2 ?a3 ?l3 ?c3 ?k3 ?a4 ?l4 ?c4 ?k4 ?a5 ?l5 ?c5 ?k5 ?a6 ?l6 ?c6 ?k6 ?a7 ?l7 ?c7 ?k7 ?a8 ?l8 ?c8 ?k8 ?a9 ?l9 ?c9 ?k9 ?a10 ?l10 ?c10 ?k10 ?a11 ?l11 ?c11 ?k11 ?a12 ?l12 ?c12 ?k12 ?a13 ?l13 ?c13 ?k13 ?a14 ?l14 ?c14 ?k14 ?a15 ?l15 ?c15 ?k15 ?a16 ?l16 ?c16 ?k16
    (case z_ValueError => k_is)
    (case z_abs => k_is)
    (case z_bool => k_is)
    (case z_int => k_is)
    (case z_isinstance => k_is)
    (case z_len => k_is)
    (case z_list => k_is)
    (case z_range => k_is)
    (case z_sum => k_is)
    (case y_MOST => k_is)
    (case a0 => k_is)
    (case l0 => k_is)
    (case c0 => k_is)
    (case k0 => k_is)
    (case a1 => k_is)
    (case l1 => k_is)
    (case c1 => k_is)
    (case k1 => k_is)
    (case a2 => k_is)
    (case l2 => k_is)
    (case c2 => k_is)
    (case k2 => k_is)
    (case a3 => k_is)
    (case l3 => k_is)
    (case c3 => k_is)
    (case k3 => k_is)
    (case a4 => k_is)
    (case l4 => k_is)
    (case c4 => k_is)
    (case k4 => k_is)
    (case a5 => k_is)
    (case l5 => k_is)
    (case c5 => k_is)
    (case k5 => k_is)
    (case a6 => k_is)
    (case l6 => k_is)
    (case c6 => k_is)
    (case k6 => k_is)
    (case a7 => k_is)
    (case l7 => k_is)
    (case c7 => k_is)
    (case k7 => k_is)
    (case a8 => k_is)
    (case l8 => k_is)
    (case c8 => k_is)
    (case k8 => k_is)
    (case a9 => k_is)
    (case l9 => k_is)
    (case c9 => k_is)
    (case k9 => k_is)
    (case a10 => k_is)
    (case l10 => k_is)
    (case c10 => k_is)
    (case k10 => k_is)
    (case a11 => k_is)
    (case l11 => k_is)
    (case c11 => k_is)
    (case k11 => k_is)
    (case a12 => k_is)
    (case l12 => k_is)
    (case c12 => k_is)
    (case k12 => k_is)
    (case a13 => k_is)
    (case l13 => k_is)
    (case c13 => k_is)
    (case k13 => k_is)
    (case a14 => k_is)
    (case l14 => k_is)
    (case c14 => k_is)
    (case k14 => k_is)
    (case a15 => k_is)
    (case l15 => k_is)
    (case c15 => k_is)
    (case k15 => k_is)
    (case a16 => k_is)
    (case l16 => k_is)
    (case c16 => k_is)
    (case k16 => k_is)
