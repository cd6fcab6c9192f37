import PyProof.Rows.All
import Wide.All
import OpenK.AllK
import Wide.FinOn
import HandS.ForMost
import HandS.Wide
import HandS.IsInst
import HandS.Style
import HandS.Conv
import HandS.EndBits
import HandS.More
import HandS.Codes
import HandS.Walk
import HandS.CallRecv
import HandS.TupSets
import PySem.Challenge.RW_arrowdots_k06_whole_turned
set_option Elab.async false
set_option linter.all false
set_option maxRecDepth 100000
set_option maxHeartbeats 4000000
namespace AD
/-! ### the loops as plain functions -/
def plenAux (p g : Nat) : Nat → Nat → Nat → Nat
  | 0, _, n => n
  | f + 1, x, n => match Nat.beq x 1 with
    | true => n
    | false => plenAux p g f (x * g % p) (n + 1)
/-- how many powers there are to 1 -/
def plen (p g : Nat) : Nat := plenAux p g (p - 1) (g % p) 1
def stripN (a : Nat) : Nat → Nat → Nat
  | 0, left => left
  | f + 1, left => match Nat.beq (left % a) 0 with
    | true => stripN a f (left / a)
    | false => left
def rootLoop (p g : Nat) : Nat → Nat → Nat → Bool
  | 0, _, _ => true
  | f + 1, left, a => match Nat.ble left 1 with
    | true => true
    | false => match Nat.beq (left % a) 0 with
      | true => match Nat.beq (g ^ ((p - 1) / a) % p) 1 with
        | true => false
        | false => rootLoop p g f (stripN a left left) (a + 1)
      | false => rootLoop p g f left (a + 1)
def rootB (p g : Nat) : Bool := rootLoop p g p (p - 1) 2
def primeLoop (n : Nat) : Nat → Nat → Bool
  | 0, _ => true
  | f + 1, a => match Nat.ble (a * a) n with
    | false => true
    | true => match Nat.beq (n % a) 0 with
      | true => false
      | false => primeLoop n f (a + 1)
def primeB (n : Nat) : Bool := primeLoop n n 2
def allTo (f : Nat → Bool) : Nat → Bool
  | 0 => true
  | n + 1 => match f n with
    | true => allTo f n
    | false => false
theorem allTo_at {f : Nat → Bool} : ∀ {n : Nat}, allTo f n = true → ∀ i, i < n → f i = true
  | 0, _, i, h => absurd h (Nat.not_lt_zero i)
  | n + 1, e, i, h => by
    unfold allTo at e
    cases q : f n with
    | false => rw [q] at e; cases e
    | true =>
      rw [q] at e
      by_cases z : i = n
      · rw [z]; exact q
      · exact allTo_at e i (by omega)
def ferB (p : Nat) : Bool := allTo (fun x => Nat.beq ((x + 1) ^ (p - 1) % p) 1) (p - 1)
def rtB (p : Nat) : Bool := allTo (fun x => rootB p (x + 1) == Nat.beq (plen p (x + 1)) (p - 1)) (p - 1)

/-- what is known of a prime -/
structure Good (p : Nat) : Prop where
  lo : 3 ≤ p
  hi : p ≤ 2000
  pr : primeB p = true
  fer : ferB p = true

theorem Good.fer1 {p x : Nat} (G : Good p) (h1 : 1 ≤ x) (h2 : x < p) : x ^ (p - 1) % p = 1 := by
  have h := allTo_at G.fer (x - 1) (by omega)
  have e : x - 1 + 1 = x := by omega
  rw [e] at h
  exact Nat.eq_of_beq_eq_true h
theorem rt_of {p g : Nat} (h : rtB p = true) (h1 : 1 ≤ g) (h2 : g < p) : rootB p g = decide (plen p g = p - 1) := by
  have h := allTo_at h (g - 1) (by omega)
  have e : g - 1 + 1 = g := by omega
  rw [e] at h
  rw [eq_of_beq h]
  by_cases z : plen p g = p - 1
  · rw [decide_eq_true z, z]; exact Nat.beq_refl _
  · rw [decide_eq_false z]
    cases q : Nat.beq (plen p g) (p - 1) with
    | false => rfl
    | true => exact absurd (Nat.eq_of_beq_eq_true q) z

/-! ### how many powers -/
theorem plenAux_spec (p g : Nat) : ∀ (f n : Nat), ∃ m, plenAux p g f (g ^ n % p) n = m ∧ n ≤ m ∧ m ≤ n + f ∧ (∀ k, n ≤ k → k < m → g ^ k % p ≠ 1) ∧ (m < n + f → g ^ m % p = 1)
  | 0, n => ⟨n, rfl, Nat.le_refl _, Nat.le_refl _, fun k h1 h2 => by omega, fun h => by omega⟩
  | f + 1, n => by
    unfold plenAux
    cases q : Nat.beq (g ^ n % p) 1 with
    | true => exact ⟨n, rfl, Nat.le_refl _, by omega, fun k h1 h2 => by omega, fun _ => Nat.eq_of_beq_eq_true q⟩
    | false =>
      have e : g ^ n % p * g % p = g ^ (n + 1) % p := by rw [Nat.pow_succ, Nat.mod_mul_mod]
      show ∃ m, plenAux p g f (g ^ n % p * g % p) (n + 1) = m ∧ _
      rw [e]
      obtain ⟨m, h0, h1, h2, h3, h4⟩ := plenAux_spec p g f (n + 1)
      refine ⟨m, h0, by omega, by omega, fun k k1 k2 => ?_, fun h => h4 (by omega)⟩
      by_cases z : k = n
      · subst z
        intro y
        rw [y] at q
        cases q
      · exact h3 k (by omega) k2
theorem plen_spec (p g : Nat) (hp : 1 ≤ p) : 1 ≤ plen p g ∧ plen p g ≤ p ∧ (∀ k, 1 ≤ k → k < plen p g → g ^ k % p ≠ 1) ∧ (plen p g < p → g ^ plen p g % p = 1) := by
  obtain ⟨m, h0, h1, h2, h3, h4⟩ := plenAux_spec p g (p - 1) 1
  rw [Nat.pow_one] at h0
  have e : plen p g = m := h0
  rw [e]
  exact ⟨h1, by omega, h3, fun h => h4 (by omega)⟩
theorem plen_unique {p g n : Nat} (hp : 1 ≤ p) (h1 : 1 ≤ n) (h2 : n ≤ p) (h3 : ∀ k, 1 ≤ k → k < n → g ^ k % p ≠ 1) (h4 : g ^ n % p = 1 ∨ n = p) : plen p g = n := by
  obtain ⟨a1, a2, a3, a4⟩ := plen_spec p g hp
  rcases Nat.lt_trichotomy (plen p g) n with h | h | h
  · exact absurd (a4 (by omega)) (h3 _ a1 h)
  · exact h
  · rcases h4 with z | z
    · exact absurd z (a3 n h1 h)
    · omega

/-! ### what is left by a prime -/
theorem Good.ferm {p x : Nat} (G : Good p) (h : x % p ≠ 0) : x ^ (p - 1) % p = 1 := by
  have lo := G.lo
  rw [Nat.pow_mod]
  exact G.fer1 (by omega) (Nat.mod_lt _ (by omega))
/-- the last but one power is what makes 1 of a number -/
theorem Good.inv {p x : Nat} (G : Good p) (h : x % p ≠ 0) : x ^ (p - 2) * x % p = 1 := by
  have lo := G.lo
  rw [← Nat.pow_succ, show (p - 2).succ = p - 1 by omega]
  exact G.ferm h
theorem mul_left_mod {p a b : Nat} (c : Nat) (h : a % p = b % p) : c * a % p = c * b % p := by
  rw [Nat.mul_mod, h, ← Nat.mul_mod]
theorem mul_right_mod {p a b : Nat} (c : Nat) (h : a % p = b % p) : a * c % p = b * c % p := by
  rw [Nat.mul_mod, h, ← Nat.mul_mod]
theorem Good.cancel {p x a b : Nat} (G : Good p) (h : x % p ≠ 0) (e : x * a % p = x * b % p) : a % p = b % p := by
  have lo := G.lo
  have k : ∀ c, x ^ (p - 2) * (x * c) % p = c % p := fun c => by
    rw [← Nat.mul_assoc, Nat.mul_mod, G.inv h, Nat.one_mul, Nat.mod_mod]
  have z := mul_left_mod (x ^ (p - 2)) e
  rw [k, k] at z
  exact z
theorem Good.mul_ne {p a b : Nat} (G : Good p) (ha : a % p ≠ 0) (hb : b % p ≠ 0) : a * b % p ≠ 0 := fun z => by
  have e : a * b % p = a * 0 % p := by rw [z, Nat.mul_zero, Nat.zero_mod]
  exact hb (by rw [G.cancel ha e, Nat.zero_mod])
theorem Good.pow_ne {p g : Nat} (G : Good p) (hg : g % p ≠ 0) : ∀ n, g ^ n % p ≠ 0
  | 0 => by
    have lo := G.lo
    rw [Nat.pow_zero, Nat.mod_eq_of_lt (by omega)]
    exact Nat.one_ne_zero
  | n + 1 => by
    rw [Nat.pow_succ]
    exact G.mul_ne (G.pow_ne hg n) hg
theorem Good.pow_pos {p g : Nat} (G : Good p) (hg : g % p ≠ 0) (n : Nat) : 1 ≤ g ^ n % p := Nat.pos_of_ne_zero (G.pow_ne hg n)

theorem Good.plen_le {p g : Nat} (G : Good p) (h1 : 1 ≤ g) (h2 : g < p) : plen p g ≤ p - 1 := by
  have lo := G.lo
  obtain ⟨a1, a2, a3, a4⟩ := plen_spec p g (by omega)
  rcases Nat.lt_or_ge (p - 1) (plen p g) with z | z
  · exact absurd (G.fer1 h1 h2) (a3 (p - 1) (by omega) z)
  · exact z
/-! ### a root -/
/-- a root of a prime -/
structure Root (p g : Nat) : Prop where
  good : Good p
  one : 1 ≤ g
  lt : g < p
  len : plen p g = p - 1
theorem Root.ne {p g : Nat} (R : Root p g) : g % p ≠ 0 := by
  have h := R.one
  rw [Nat.mod_eq_of_lt R.lt]
  omega
theorem Root.per {p g : Nat} (R : Root p g) (n : Nat) : g ^ (n % (p - 1)) % p = g ^ n % p := by
  have lo := R.good.lo
  conv => rhs; rw [← Nat.div_add_mod n (p - 1), Nat.pow_add, Nat.pow_mul, Nat.mul_mod, Nat.pow_mod, R.good.ferm R.ne, Nat.one_pow, ← Nat.mul_mod, Nat.one_mul]
theorem Root.inj0 {p g i d : Nat} (R : Root p g) (hd : 1 ≤ d) (hd2 : d < p - 1) : g ^ i % p ≠ g ^ (i + d) % p := fun e => by
  have lo := R.good.lo
  rw [Nat.pow_add] at e
  have e1 : g ^ i * 1 % p = g ^ i * g ^ d % p := by rw [Nat.mul_one]; exact e
  have e2 := R.good.cancel (R.good.pow_ne R.ne i) e1
  rw [Nat.mod_eq_of_lt (show 1 < p by omega)] at e2
  exact (plen_spec p g (by omega)).2.2.1 d hd (by rw [R.len]; omega) e2.symm
theorem Root.inj {p g i j : Nat} (R : Root p g) (hi : i < p - 1) (hj : j < p - 1) (e : g ^ i % p = g ^ j % p) : i = j := by
  rcases Nat.lt_trichotomy i j with h | h | h
  · exact absurd (by rw [show i + (j - i) = j by omega]; exact e) (R.inj0 (i := i) (d := j - i) (by omega) (by omega))
  · exact h
  · exact absurd (by rw [show j + (i - j) = i by omega]; exact e.symm) (R.inj0 (i := j) (d := i - j) (by omega) (by omega))
/-- equal powers: the numbers differ by a multiple of one less than the prime -/
theorem Root.injm {p g i j : Nat} (R : Root p g) (e : g ^ i % p = g ^ j % p) : i % (p - 1) = j % (p - 1) := by
  have lo := R.good.lo
  rw [← R.per i, ← R.per j] at e
  exact R.inj (Nat.mod_lt _ (by omega)) (Nat.mod_lt _ (by omega)) e

/-! ### as many places as things -/
theorem nodup_len : ∀ (n : Nat) (l : List Nat), l.Nodup → (∀ x ∈ l, x < n) → l.length ≤ n
  | 0, l, _, h => by
    cases l with
    | nil => exact Nat.le_refl _
    | cons x r => exact absurd (h x (List.mem_cons_self ..)) (Nat.not_lt_zero x)
  | n + 1, l, hn, h => by
    have h1 : (l.erase n).Nodup := hn.erase n
    have h2 := nodup_len n (l.erase n) h1 fun x hx => by
      have a := h x (List.mem_of_mem_erase hx)
      have b : x ≠ n := fun e => by
        subst e
        exact (List.Nodup.mem_erase_iff hn).mp hx |>.1 rfl
      omega
    have h3 := List.length_erase (a := n) (l := l)
    rw [h3] at h2
    split at h2 <;> omega
theorem nodup_full {n : Nat} {l : List Nat} (hn : l.Nodup) (h : ∀ x ∈ l, x < n) (hl : l.length = n) {x : Nat} (hx : x < n) : x ∈ l := by
  by_cases m : x ∈ l
  · exact m
  · have h1 : (x :: l).Nodup := List.nodup_cons.mpr ⟨m, hn⟩
    have h2 := nodup_len n (x :: l) h1 fun y hy => by
      rcases List.mem_cons.mp hy with e | e
      · rw [e]; exact hx
      · exact h y e
    rw [List.length_cons] at h2
    omega
theorem map_nodup {α β : Type} {f : α → β} : ∀ {l : List α}, l.Nodup → (∀ x ∈ l, ∀ y ∈ l, f x = f y → x = y) → (l.map f).Nodup
  | [], _, _ => List.nodup_nil
  | a :: r, h, hi => by
    obtain ⟨h1, h2⟩ := List.nodup_cons.mp h
    refine List.nodup_cons.mpr ⟨fun m => ?_, map_nodup h2 fun x hx y hy => hi x (List.mem_cons_of_mem _ hx) y (List.mem_cons_of_mem _ hy)⟩
    obtain ⟨b, hb, e⟩ := List.mem_map.mp m
    have z := hi b (List.mem_cons_of_mem _ hb) a (List.mem_cons_self ..) e
    rw [z] at hb
    exact h1 hb
/-- every number from 1 to below the prime is a power -/
theorem Root.onto {p g x : Nat} (R : Root p g) (h1 : 1 ≤ x) (h2 : x < p) : ∃ k, k < p - 1 ∧ g ^ k % p = x := by
  have lo := R.good.lo
  let l := (List.range (p - 1)).map fun k => g ^ k % p - 1
  have hn : l.Nodup := map_nodup List.nodup_range fun i hi j hj e => by
    have a := R.good.pow_pos R.ne i
    have b := R.good.pow_pos R.ne j
    exact R.inj (List.mem_range.mp hi) (List.mem_range.mp hj) (by omega)
  have hb : ∀ y ∈ l, y < p - 1 := fun y hy => by
    obtain ⟨k, hk, e⟩ := List.mem_map.mp hy
    have a := R.good.pow_pos R.ne k
    have b := Nat.mod_lt (g ^ k) (show p > 0 by omega)
    omega
  have hm := nodup_full hn hb (by rw [List.length_map, List.length_range]) (x := x - 1) (by omega)
  obtain ⟨k, hk, e⟩ := List.mem_map.mp hm
  have a := R.good.pow_pos R.ne k
  exact ⟨k, List.mem_range.mp hk, by omega⟩
end AD
/-! ### sets of more tuples: the tables of 512, 2048 and 8192 slots too -/
namespace Bs
open PySem PySem.Spec PyProof.Rows L2
def masks : List Nat := [7, 31, 127, 511, 2047, 8191]
def Msk (m : Nat) : Prop := m ∈ masks
/-- no power of 5 but the last one leaves 1 by four times the slots -/
def fiveB (m : Nat) : Bool := AD.allTo (fun n => !Nat.beq (5 ^ (n + 1) % (4 * (m + 1))) 1) m && Nat.beq (5 ^ (m + 1) % (4 * (m + 1))) 1
theorem five_all : masks.all (fun m => fiveB m) = true := by decide +kernel
theorem five_no {m n : Nat} (h : Msk m) (h1 : 1 ≤ n) (h2 : n ≤ m) : 5 ^ n % (4 * (m + 1)) ≠ 1 := fun e => by
  have q := List.all_eq_true.mp five_all m h
  unfold fiveB at q
  rw [Bool.and_eq_true] at q
  have k := AD.allTo_at q.1 (n - 1) (by omega)
  rw [show n - 1 + 1 = n by omega, e] at k
  cases k
theorem five_end {m : Nat} (h : Msk m) : 5 ^ (m + 1) % (4 * (m + 1)) = 1 := by
  have q := List.all_eq_true.mp five_all m h
  unfold fiveB at q
  rw [Bool.and_eq_true] at q
  exact Nat.eq_of_beq_eq_true q.2
theorem lcg_lt (m : Nat) : ∀ k, lcgN m k < m + 1
  | 0 => Nat.succ_pos m
  | k + 1 => Nat.mod_lt _ (Nat.succ_pos m)
theorem lcg_four (m : Nat) : ∀ k, (4 * lcgN m k + 1) % (4 * (m + 1)) = 5 ^ k % (4 * (m + 1))
  | 0 => rfl
  | k + 1 => by
    have ih := lcg_four m k
    show (4 * ((lcgN m k * 5 + 1) % (m + 1)) + 1) % (4 * (m + 1)) = _
    rw [← Nat.mul_mod_mul_left, Nat.mod_add_mod, show 4 * (lcgN m k * 5 + 1) + 1 = (4 * lcgN m k + 1) * 5 by omega, Nat.mul_mod, ih, ← Nat.mul_mod, ← Nat.pow_succ]
theorem lcg_inj {m a b : Nat} (hm : Msk m) (hab : a < b) (hb : b ≤ m) : lcgN m a ≠ lcgN m b := fun e => by
  have h1 := lcg_four m a
  rw [e, lcg_four m b] at h1
  have h2 := AD.mul_right_mod (p := 4 * (m + 1)) (5 ^ (m + 1 - a)) h1
  rw [← Nat.pow_add, ← Nat.pow_add, show b + (m + 1 - a) = (m + 1) + (b - a) by omega, show a + (m + 1 - a) = m + 1 by omega, Nat.pow_add, Nat.mul_mod, five_end hm, Nat.one_mul, Nat.mod_mod] at h2
  exact five_no hm (show 1 ≤ b - a by omega) (by omega) h2
theorem lcg_has {m j : Nat} (hm : Msk m) (hj : j ≤ m) : ∃ k, k ≤ m ∧ lcgN m k = j := by
  have hn : ((List.range (m + 1)).map (lcgN m)).Nodup := AD.map_nodup List.nodup_range fun x hx y hy e => by
    have hx := List.mem_range.mp hx
    have hy := List.mem_range.mp hy
    rcases Nat.lt_trichotomy x y with c | c | c
    · exact absurd e (lcg_inj hm c (by omega))
    · exact c
    · exact absurd e.symm (lcg_inj hm c (by omega))
  have hmem := AD.nodup_full hn (n := m + 1) (fun x hx => by
    obtain ⟨k, _, e⟩ := List.mem_map.mp hx
    rw [← e]
    exact lcg_lt m k) (by rw [List.length_map, List.length_range]) (x := j) (by omega)
  obtain ⟨k, hk, e⟩ := List.mem_map.mp hmem
  exact ⟨k, Nat.le_of_lt_succ (List.mem_range.mp hk), e⟩
theorem lcg_back {m : Nat} (hm : Msk m) : ∀ k, lcgN m (m + 1 + k) = lcgN m k
  | 0 => by
    have h := lcg_four m (m + 1)
    have hl := lcg_lt m (m + 1)
    rw [five_end hm, Nat.mod_eq_of_lt (by omega)] at h
    show lcgN m (m + 1) = 0
    omega
  | k + 1 => by
    have e : lcgN m (m + 1 + (k + 1)) = (lcgN m (m + 1 + k) * 5 + 1) % (m + 1) := rfl
    rw [e, lcg_back hm k]
    rfl
theorem lcg_reach {m i j : Nat} (hm : Msk m) (hi : i ≤ m) (hj : j ≤ m) : ∃ k, k ≤ m ∧ lcgI m i k = j := by
  obtain ⟨x, hx, rfl⟩ := lcg_has hm hi
  obtain ⟨y, hy, rfl⟩ := lcg_has hm hj
  by_cases c : x ≤ y
  · exact ⟨y - x, by omega, by rw [lcgN_add, show x + (y - x) = y by omega]⟩
  · exact ⟨m + 1 + y - x, by omega, by rw [lcgN_add, show x + (m + 1 + y - x) = m + 1 + y by omega, lcg_back hm]⟩
/-- each slot begins a run -/
theorem run_has {m j : Nat} (hm : Msk m) (h : Int) (hj : j ≤ m) : ∃ n, n ≤ m + 12 ∧ runI m (SetTable.bits h) n = j := by
  obtain ⟨k, hk, e⟩ := lcg_reach hm (runI_le m (SetTable.bits h) 12) hj
  exact ⟨12 + k, by omega, (runI_tail (bits_lt h) k).trans e⟩
theorem way_has {m j : Nat} (hm : Msk m) (h : Int) (hj : j ≤ m) : ∃ k, k < 10 * SetTable.turns m ∧ way m h k = j := by
  obtain ⟨n, hn, e⟩ := run_has hm h hj
  obtain ⟨k, hk, e2⟩ := run_nth m (SetTable.bits h) n
  exact ⟨k, by unfold SetTable.turns; omega, (congrArg SetTable.Probe.j e2).trans e⟩
theorem way_in {m : Nat} {h : Int} {k : Nat} : way m h k ≤ m := by
  have hi : SetTable.bits h % (m + 1) ≤ m := Nat.le_of_lt_succ (Nat.mod_lt _ (Nat.succ_pos _))
  obtain ⟨r1, r2, _⟩ := runEnd_bd hi
  have hs : (runAt m (SetTable.bits h % (m + 1)) (SetTable.bits h)).j + (runAt m (SetTable.bits h % (m + 1)) (SetTable.bits h)).more ≤ m := by
    show SetTable.bits h % (m + 1) + (SetTable.runEnd m (SetTable.bits h % (m + 1)) - SetTable.bits h % (m + 1)) ≤ m
    omega
  exact Nat.le_trans (Nat.le_add_right _ _) (nth_in k _ hs)
/-- slots in rising order; each is the first that its hash's way finds free -/
structure Tab (t : SetTable) (hs : List Int) : Prop where
  up : Ris t.place.toList
  clean : t.dummies = #[]
  len : t.place.size = hs.length
  msk : Msk t.mask
  path : ∀ (i : Nat) (h : Int) (j : Nat), hs[i]? = some h → t.place.toList[i]? = some j → ∃ k, way t.mask h k = j ∧ ∀ c, c < k → way t.mask h c ∈ t.place.toList
theorem Tab.plen {t : SetTable} {hs : List Int} (T : Tab t hs) : t.place.toList.length = hs.length := by
  rw [Array.length_toList, T.len]
/-- where the way of a hash first is free -/
theorem Tab.free {t : SetTable} {hs : List Int} (T : Tab t hs) (hl : hs.length ≤ t.mask) (h : Int) :
    ∃ K, K < 10 * SetTable.turns t.mask ∧ way t.mask h K ∉ t.place.toList ∧ ∀ k, k < K → way t.mask h k ∈ t.place.toList := by
  obtain ⟨j, hj, hn⟩ := st_missing t.place.toList (t.mask + 1) (by rw [T.plen]; omega)
  obtain ⟨k, hk, e⟩ := way_has T.msk h (show j ≤ t.mask by omega)
  obtain ⟨K, h1, h2, h3⟩ := st_least (p := fun k => way t.mask h k ∉ t.place.toList) k (by rw [e]; exact hn)
  exact ⟨K, by omega, h2, fun c hc => Classical.byContradiction (h3 c hc)⟩
/-- a hash that is there stands on the way ahead of the free slot -/
theorem Tab.ahead {t : SetTable} {hs : List Int} (T : Tab t hs) {h : Int} {K i j : Nat} (hK : way t.mask h K ∉ t.place.toList) (hi : hs[i]? = some h) (hj : t.place.toList[i]? = some j) : ∃ k, k < K ∧ way t.mask h k = j := by
  obtain ⟨k, e, hb⟩ := T.path i h j hi hj
  refine ⟨k, Classical.byContradiction fun z => ?_, e⟩
  by_cases c : k = K
  · exact hK (by rw [← c, e]; exact List.mem_of_getElem? hj)
  · exact hK (hb K (by omega))
/-- one more put into its free slot -/
theorem Tab.put {t : SetTable} {hs : List Int} (T : Tab t hs) {h : Int} {K p : Nat} (hp : SetTable.below t.place (way t.mask h K) = p) (hK : way t.mask h K ∉ t.place.toList) (hb : ∀ k, k < K → way t.mask h k ∈ t.place.toList) :
    p ≤ hs.length ∧ Tab (t.put (way t.mask h K)).1 (hs.take p ++ h :: hs.drop p) ∧ (t.put (way t.mask h K)).1.fill = hs.length + 1 := by
  have hle := (below_cut T.up (way t.mask h K)).1
  rw [hp] at hle
  have hp1 : p ≤ hs.length := by rw [← T.len]; exact hle
  have hp2 : p ≤ t.place.toList.length := by rw [T.plen]; exact hp1
  have hnew := put_place t (way t.mask h K)
  rw [hp] at hnew
  have hl : (t.put (way t.mask h K)).1.place.size = hs.length + 1 := by
    rw [← Array.length_toList, hnew, len_ins _ hp2, T.plen]
  have hmem : ∀ x, x ∈ t.place.toList → x ∈ (t.put (way t.mask h K)).1.place.toList := fun x hx => by
    rw [hnew]
    exact mem_ins.2 (.inr hx)
  have hnot : t.place[SetTable.below t.place (way t.mask h K)]? ≠ some (way t.mask h K) := fun e => hK (List.mem_of_getElem? (i := SetTable.below t.place (way t.mask h K)) (by rw [Array.getElem?_toList]; exact e))
  have hdm := put_dm T.clean (way t.mask h K)
  refine ⟨hp1, ⟨ris_insert T.up hnot, hdm, by rw [hl, len_ins _ hp1], T.msk, fun i h' j hi hj => ?_⟩, ?_⟩
  · rw [tins_get hs hp1] at hi
    rw [hnew, tins_get _ hp2] at hj
    have old : ∀ c, hs[c]? = some h' → t.place.toList[c]? = some j → ∃ k, way t.mask h' k = j ∧ ∀ c, c < k → way t.mask h' c ∈ (t.put (way t.mask h K)).1.place.toList := fun c h1 h2 => by
      obtain ⟨k, e, z⟩ := T.path c h' j h1 h2
      exact ⟨k, e, fun d hd => hmem _ (z d hd)⟩
    by_cases c : i < p
    · rw [if_pos c] at hi hj
      exact old i hi hj
    · rw [if_neg c] at hi hj
      by_cases d : i = p
      · rw [if_pos d] at hi hj
        cases hi
        cases hj
        exact ⟨K, rfl, fun c hc => hmem _ (hb c hc)⟩
      · rw [if_neg d] at hi hj
        exact old (i - 1) hi hj
  · show (t.put (way t.mask h K)).1.place.size + (t.put (way t.mask h K)).1.dummies.size = _
    rw [hl, hdm]
    rfl
/-! ### a table laid anew -/
theorem lay_free {m : Nat} (hm : Msk m) (ow : Array (Option Nat)) (h : Int) {j : Nat} (hj : j ≤ m) (hf : oAt ow j = none) :
    ∃ K, SetTable.layClean.free m ow (SetTable.turns m) (SetTable.bits h % (m + 1)) (SetTable.bits h) = some (way m h K) ∧ oAt ow (way m h K) = none ∧ ∀ k, k < K → oAt ow (way m h k) ≠ none := by
  obtain ⟨n, hn, e⟩ := run_has hm h hj
  generalize hi : SetTable.bits h % (m + 1) = i0
  have hw : (nth m (runAt m i0 (SetTable.bits h)) (off m i0 (SetTable.bits h) n)).j = j := by
    rw [nth_off, ← hi, itL_run]
    exact e
  have hway : ∀ k, way m h k = (nth m (runAt m i0 (SetTable.bits h)) k).j := fun k => by rw [← hi]
  obtain ⟨K, k1, k2, k3⟩ := st_least (p := fun k => oAt ow (way m h k) = none) (off m i0 (SetTable.bits h) n) (by rw [hway, hw]; exact hf)
  refine ⟨K, ?_, k2, k3⟩
  rw [hway]
  refine free_spec m ow (SetTable.turns m) n _ _ K (by unfold SetTable.turns; omega) k1 (fun k hk => ?_) ?_
  · rw [← hway]
    cases z : oAt ow (way m h k) with
    | none => exact absurd z (k3 k hk)
    | some _ => rfl
  · rw [← hway, k2]
    rfl
theorem own_more {m : Nat} (hm : Msk m) {done : List Int} {ow : Array (Option Nat)} (W : Own m done ow) (hl : done.length ≤ m) (h : Int) :
    ∃ j, SetTable.layClean.free m ow (SetTable.turns m) (SetTable.bits h % (m + 1)) (SetTable.bits h) = some j ∧ Own m (done ++ [h]) (ow.setIfInBounds j (some done.length)) := by
  obtain ⟨ps, hps, hin⟩ := W.ps
  obtain ⟨j0, h0, hn0⟩ := st_missing ps (m + 1) (by omega)
  have hj0 : oAt ow j0 = none := Classical.byContradiction fun z => hn0 (hin j0 (by omega) z)
  obtain ⟨K, e1, e2, e3⟩ := lay_free hm ow h (show j0 ≤ m by omega) hj0
  have hjs : way m h K < ow.size := by
    rw [W.sz]
    exact Nat.lt_succ_of_le way_in
  have hself : oAt (ow.setIfInBounds (way m h K) (some done.length)) (way m h K) = some done.length := oAt_set_self _ hjs
  have held : ∀ i, oAt ow i ≠ none → oAt (ow.setIfInBounds (way m h K) (some done.length)) i ≠ none := fun i hi => by
    by_cases c : i = way m h K
    · rw [c, hself]
      simp
    · rwa [oAt_set_ne _ c]
  refine ⟨_, e1, ⟨by rw [Array.size_setIfInBounds, W.sz], fun j k hj e => ?_, fun k hk => ?_, way m h K :: ps, by rw [List.length_cons, List.length_append, hps]; rfl, fun j hj e => ?_⟩⟩
  · by_cases c : j = way m h K
    · rw [c, hself] at e
      cases e
      exact ⟨h, K, by simp, c.symm, fun d hd => held _ (e3 d hd)⟩
    · rw [oAt_set_ne _ c] at e
      obtain ⟨h', K', a1, a2, a3⟩ := W.at_ j k hj e
      have hk : k < done.length := (List.getElem?_eq_some_iff.mp a1).1
      exact ⟨h', K', by rw [List.getElem?_append_left hk, a1], a2, fun d hd => held _ (a3 d hd)⟩
  · by_cases c : k = done.length
    · exact ⟨way m h K, way_in, by rw [c, hself]⟩
    · obtain ⟨j, hj, e⟩ := W.all k (by rw [List.length_append, List.length_singleton] at hk; omega)
      have ne : j ≠ way m h K := fun z => by
        rw [z, e2] at e
        cases e
      exact ⟨j, hj, by rw [oAt_set_ne _ ne, e]⟩
  · by_cases c : j = way m h K
    · rw [c]
      exact List.mem_cons_self
    · rw [oAt_set_ne _ c] at e
      exact List.mem_cons_of_mem _ (hin j hj e)
theorem own_all {m : Nat} (hm : Msk m) : ∀ (rest done : List Int) (ow : Array (Option Nat)), Own m done ow → done.length + rest.length ≤ m →
    ∃ ow', rest.foldl (stepF m) (some (ow, done.length)) = some (ow', (done ++ rest).length) ∧ Own m (done ++ rest) ow'
  | [], done, ow, W, _ => ⟨ow, by simp, by simpa using W⟩
  | h :: rest, done, ow, W, hl => by
    have hl2 : done.length + (rest.length + 1) ≤ m := hl
    obtain ⟨j, e, W2⟩ := own_more hm W (by omega) h
    obtain ⟨ow', f, W3⟩ := own_all hm rest (done ++ [h]) _ W2 (by rw [List.length_append, List.length_singleton]; omega)
    rw [List.append_assoc, List.singleton_append] at f W3
    rw [List.length_append, List.length_singleton] at f
    exact ⟨ow', by rw [List.foldl_cons, stepF_some e]; exact f, W3⟩
theorem lay_ok {m : Nat} (hm : Msk m) {hs : Array Int} (hn : hs.size ≤ m) : ∃ ow, SetTable.layClean m hs = some ow ∧ Own m hs.toList ow := by
  obtain ⟨ow, f, W⟩ := own_all hm hs.toList [] _ (Own.init m) (by simpa using hn)
  exact ⟨ow, by rw [layClean_eq, show (0 : Nat) = ([] : List Int).length from rfl, f]; rfl, W⟩
/-- the table laid anew: the same elements in some order -/
theorem relay_ok (t : SetTable) {hs : Array Int} {wanted M : Nat} (hw : SetTable.sizeAbove wanted - 1 = M) (hM : Msk M) (hn : hs.size ≤ M) :
    ∃ t' order, t.relaid hs wanted = some (t', order) ∧ order.toList.Perm (List.range hs.size) ∧ Tab t' (order.toList.map fun i => hs.getD i 0) ∧ t'.mask = M ∧ t'.led = t.led ∧ t'.plain = t.plain := by
  obtain ⟨ow, e, W⟩ := lay_ok hM hn
  have hr : t.relaid hs wanted = some (tabOf t M ow, ((liveOf M ow).map (·.2)).toArray) := by
    rw [relaid_eq, hw, e]
    rfl
  obtain ⟨r1, r2⟩ := ris_live (fun j => ow.getD j none) (List.range (M + 1)) (by unfold Ris; exact List.pairwise_lt_range)
  have hr1 : Ris ((liveOf M ow).map (·.1)) := r1
  have nd : ((liveOf M ow).map (·.1)).Nodup := List.Pairwise.imp (fun h => Nat.ne_of_lt h) hr1
  obtain ⟨ps, p1, p2⟩ := W.ps
  have hz : hs.toList.length = hs.size := Array.length_toList
  have le1 := nat_nodup_len ((liveOf M ow).map (·.1)) ps nd fun x hx => by
    obtain ⟨⟨y, k⟩, hq, rfl⟩ := List.mem_map.mp hx
    obtain ⟨b1, b2⟩ := (mem_live W.sz).1 hq
    exact p2 y b1 (by rw [b2]; simp)
  have hall : ∀ k, k < hs.size → k ∈ (liveOf M ow).map (·.2) := fun k hk => by
    obtain ⟨j, b1, b2⟩ := W.all k (by omega)
    exact List.mem_map.mpr ⟨(j, k), (mem_live W.sz).2 ⟨b1, b2⟩, rfl⟩
  have le2 := nat_nodup_len (List.range hs.size) ((liveOf M ow).map (·.2)) List.nodup_range fun k hk => hall k (List.mem_range.mp hk)
  rw [List.length_map] at le1
  rw [List.length_map, List.length_range] at le2
  have hlen : (liveOf M ow).length = hs.size := by omega
  refine ⟨_, _, hr, ?_, ⟨hr1, rfl, ?_, hM, fun i h j h1 h2 => ?_⟩, rfl, rfl, rfl⟩
  · exact L2.perm_range hs.size _ (by rw [List.length_map, hlen]) hall
  · show ((liveOf M ow).map (·.1)).toArray.size = _
    simp
  · have g1 : (((liveOf M ow).map (·.2)).map fun i => hs.getD i 0)[i]? = some h := h1
    have g2 : ((liveOf M ow).map (·.1))[i]? = some j := h2
    rw [List.getElem?_map, List.getElem?_map] at g1
    rw [List.getElem?_map] at g2
    cases hq : (liveOf M ow)[i]? with
    | none => rw [hq] at g2; cases g2
    | some q =>
      obtain ⟨y, k⟩ := q
      rw [hq] at g1 g2
      have ej : y = j := Option.some.inj g2
      have eh : hs.getD k 0 = h := Option.some.inj g1
      subst ej
      obtain ⟨b1, b2⟩ := (mem_live W.sz).1 (List.mem_of_getElem? hq)
      obtain ⟨h0, K, a1, a2, a3⟩ := W.at_ y k b1 b2
      have e0 : hs.getD k 0 = h0 := by
        rw [Array.getD_eq_getD_getElem?, ← Array.getElem?_toList, a1]
        rfl
      rw [e0] at eh
      subst eh
      refine ⟨K, a2, fun c hc => ?_⟩
      cases z : oAt ow (way M h0 c) with
      | none => exact absurd z (a3 c hc)
      | some k2 => exact List.mem_map.mpr ⟨(way M h0 c, k2), (mem_live W.sz).2 ⟨way_in, z⟩, rfl⟩
end Bs
/-! ### the set object -/
namespace Bs
open PySem PySem.Spec PyProof.Rows L2
section
variable {P : Program} {w : World} {A : Around} {E : Value → Shared → Prop} {s : Shared}
/-- the set at a holds the tuples L, each once -/
structure SetB (P : Program) (w : World) (h : Heap) (a : Addr) (L : List (Addr × List Int)) (es : Array (Int × Value)) (ep : Nat) (t : SetTable) : Prop where
  obj : ∃ o, h.get? a = some o ∧ o.ExactSet ∧ o.data = .set es ep t
  ent : es.toList = rowsOf P w L
  tb : Tab t (L.map fun p => thash P w p.2)
  once : (L.map (·.2)).Nodup
  tups : ∀ p ∈ L, IsT P w h p.2 p.1
  pln : t.plain = true
  ldd : w.params.followText "set-order" = true ∨ t.led = true
  roomy : L.length * 5 < t.mask * 3
variable {a : Addr} {L : List (Addr × List Int)} {es : Array (Int × Value)} {ep : Nat} {t : SetTable}
theorem rows_len {L : List (Addr × List Int)} {es : Array (Int × Value)} (h : es.toList = rowsOf P w L) : es.size = L.length := by
  rw [← Array.length_toList, h]
  exact List.length_map ..
theorem fits_len {n : Nat} (hd : t.dummies = #[]) (hs : t.place.size = n) (hm : n ≤ t.mask) : t.fits n = true := by
  unfold SetTable.fits SetTable.fill
  rw [hd, hs, Bool.and_eq_true, beq_iff_eq, decide_eq_true_eq]
  exact ⟨rfl, hm⟩
theorem SetB.pl (R : SetB P w s.heap a L es ep t) : t.place.size = L.length := by rw [R.tb.len, List.length_map]
theorem SetB.ok (R : SetB P w s.heap a L es ep t) : t.fits es.size = true := by
  have h := R.roomy
  rw [rows_len R.ent]
  exact fits_len R.tb.clean R.pl (by omega)
theorem SetB.at_ (R : SetB P w s.heap a L es ep t) {i : Nat} {p : Addr × List Int} (h : L[i]? = some p) : es[i]? = some (thash P w p.2, Value.ref p.1) := by
  rw [← Array.getElem?_toList, R.ent]
  unfold rowsOf
  rw [List.getElem?_map, h]
  rfl
theorem SetB.hash (R : SetB P w s.heap a L es ep t) {i : Nat} {p : Addr × List Int} (h : L[i]? = some p) : (es[i]?.map (·.1)).getD 0 = thash P w p.2 := by
  rw [R.at_ h]
  rfl
theorem SetB.stays (R : SetB P w s.heap a L es ep t) : ¬ t.gaveWay = true := by
  have h : t.mask % 2 = 1 := by
    have q : ∀ m ∈ masks, m % 2 = 1 := by decide
    exact q _ R.tb.msk
  unfold SetTable.gaveWay
  rw [h]
  decide
theorem no_dummy (m : Nat) : ∀ (n : Nat) (p : SetTable.Probe), p.dummy = none → (nth m p n).dummy = none
  | 0, _, h => h
  | n + 1, p, h => no_dummy m n (adv m p) (by unfold adv; split <;> exact h)
/-- looking for the tuple x of ints k: from the c-th slot of its way on; the first free one is the K-th -/
theorem look_from (R : SetB P w s.heap a L es ep t) {x : Addr} {k : List Int} (hx : IsT P w s.heap k x) (hu : A.units < cLine) {K : Nat} (hKf : K < 10 * SetTable.turns t.mask)
    (hK : way t.mask (thash P w k) K ∉ t.place.toList) (hKb : ∀ c, c < K → way t.mask (thash P w k) c ∈ t.place.toList) {Q : SetFound → Shared → Prop}
    (hin : k ∈ L.map (·.2) → Q (.there none) s) (hout : k ∉ L.map (·.2) → Q (.free (way t.mask (thash P w k) K) false) s) :
    ∀ (f c : Nat) (st : Option SetTable.Probe), st.getD (t.probeStart (thash P w k)) = nth t.mask (runAt t.mask (SetTable.bits (thash P w k) % (t.mask + 1)) (SetTable.bits (thash P w k))) c → c ≤ K → K - c < f →
      (∀ (i : Nat) p, L[i]? = some p → p.2 = k → ∃ c', c ≤ c' ∧ c' < K ∧ t.place.toList[i]? = some (way t.mask (thash P w k) c')) →
      wpAny (model P w) A (setSearchFrom a (.ref x) (thash P w k) true f st) Q E s := by
  intro f
  induction f with
  | zero => intro c st _ _ hf; omega
  | succ f ih =>
    intro c st hst hc hf hre
    obtain ⟨o, ho, hex, hd⟩ := R.obj
    generalize hS : runAt t.mask (SetTable.bits (thash P w k) % (t.mask + 1)) (SetTable.bits (thash P w k)) = S0 at hst
    have hway : ∀ q, way t.mask (thash P w k) q = (nth t.mask S0 q).j := fun q => by rw [← hS]
    have hsh : ∀ q, nth t.mask (nth t.mask S0 c) q = nth t.mask S0 (c + q) := fun q => (nth_add t.mask c S0 q).symm
    have hS0 : S0.dummy = none := by rw [← hS]; rfl
    rw [setSearchFrom_succ]
    refine wpAny_bind (wpAny_setState_of ho hd R.ok ?_)
    dsimp only
    refine wp_if_neg R.stays ?_
    try refine wpAny_bind (wpAny_pure ?_)
    rw [hst]
    rcases go_spec t R.tb.up R.tb.clean (fun i => (es[i]?.map (·.1)).getD 0) (thash P w k) (10 * SetTable.turns t.mask) (K - c) (nth t.mask S0 c) (no_dummy _ _ _ hS0) (by omega)
      (fun q hq => by rw [hsh, ← hway]; exact hKb _ (by omega)) (by rw [hsh, ← hway, show c + (K - c) = K by omega]; exact hK) with ⟨q, i, hq, hi, hh, hno, hpr⟩ | ⟨hno, hpr⟩
    · rw [hsh, ← hway] at hi
      have hpr' : t.probe (fun i => (es[i]?.map (·.1)).getD 0) (thash P w k) (nth t.mask S0 c) = some (.candidate (way t.mask (thash P w k) (c + q)) i (nth t.mask S0 (c + (q + 1)))) := by
        rw [hway, ← hsh, ← hsh]
        exact hpr
      rw [hpr']
      dsimp only
      have hil : i < L.length := by
        have h1 := (List.getElem?_eq_some_iff.mp hi).1
        rw [Array.length_toList, R.pl] at h1
        exact h1
      obtain ⟨p, hp⟩ : ∃ p, L[i]? = some p := ⟨_, List.getElem?_eq_getElem hil⟩
      have hpL : p ∈ L := List.mem_of_getElem? hp
      have rest : wpAny (model P w) A (searchRest a (.ref x) (thash P w k) true f es t (way t.mask (thash P w k) (c + q)) i (nth t.mask S0 (c + (q + 1)))) Q E s := by
        unfold searchRest
        rw [R.at_ hp]
        dsimp only
        refine wpAny_bind (wpAny_holding (wpAny_eqBool_tuple hu (R.tups p hpL) hx ?_))
        refine wpAny_bind (wpAny_setState_of ho hd R.ok ?_)
        dsimp only
        by_cases hkk : p.2 = k
        · refine wp_if_pos (by simp [hkk]) ?_
          exact wpAny_pure (hin (List.mem_map.mpr ⟨p, hpL, hkk⟩))
        · refine wp_if_neg (by simp [hkk]) ?_
          try refine wpAny_bind (wpAny_pure ?_)
          rw [sameMem]
          dsimp only
          have hlive : t.slot (way t.mask (thash P w k) (c + q)) = .live i := slot_live R.tb.up hi
          simp only [if_true, hlive, R.at_ hp]
          refine wpAny_bind (wpAny_isSame_ref_self (wpAny_bind (wpAny_pure ?_)))
          simp only [if_true]
          refine wp_if_neg (by simp [hkk]) ?_
          refine ih (c + (q + 1)) _ (by rw [hS]; rfl) (by omega) (by omega) fun i0 p0 h0 hk0 => ?_
          obtain ⟨c', a1, a2, a3⟩ := hre i0 p0 h0 hk0
          refine ⟨c', Classical.byContradiction fun z => ?_, a2, a3⟩
          by_cases y : c' = c + q
          · rw [y] at a3
            have e := slot_live R.tb.up a3
            rw [hlive] at e
            cases e
            rw [hp] at h0
            cases h0
            exact hkk hk0
          · refine hno (c' - c) i0 (by omega) (by rw [hsh, ← hway, show c + (c' - c) = c' by omega]; exact a3) ?_
            exact (R.hash h0).trans (by rw [hk0])
      by_cases hl : t.led = true
      · refine wp_if_neg (by simp [hl]) ?_
        try refine wpAny_bind (wpAny_pure ?_)
        exact rest
      · refine wp_if_pos (by simp [hl]) ?_
        refine wpAny_bind (seen_tup hx (fun y hy => ?_) ?_)
        · obtain ⟨e, he, ee⟩ := List.mem_map.mp hy
          have he2 : e ∈ es.toList := by
            have h3 : e ∈ es ∧ e.1 = thash P w k := by simpa using he
            simpa using h3.1
          rw [R.ent] at he2
          obtain ⟨p2, hp2, e2⟩ := List.mem_map.mp he2
          exact ⟨p2.2, p2.1, by rw [← ee, ← e2], R.tups p2 hp2⟩
        · refine wp_if_neg (by decide) ?_
          try refine wpAny_bind (wpAny_pure ?_)
          exact rest
    · have hpr' : t.probe (fun i => (es[i]?.map (·.1)).getD 0) (thash P w k) (nth t.mask S0 c) = some (.empty (way t.mask (thash P w k) K) none) := by
        rw [hway, show K = c + (K - c) by omega, ← hsh]
        have e9 : c + (K - c) - c = K - c := by omega
        exact hpr
      rw [hpr']
      dsimp only
      refine wpAny_pure (hout fun hm => ?_)
      obtain ⟨p0, h0, hk0⟩ := List.mem_map.mp hm
      obtain ⟨i0, hi0, e0⟩ := List.getElem_of_mem h0
      have h1 : L[i0]? = some p0 := by rw [List.getElem?_eq_getElem hi0, e0]
      obtain ⟨c', a1, a2, a3⟩ := hre i0 p0 h1 hk0
      refine hno (c' - c) i0 (by omega) (by rw [hsh, ← hway, show c + (c' - c) = c' by omega]; exact a3) ?_
      exact (R.hash h1).trans (by rw [hk0])
theorem turns_le : ∀ m ∈ masks, 10 * SetTable.turns m < 100000 := by decide
theorem look_at (R : SetB P w s.heap a L es ep t) {x : Addr} {k : List Int} (hx : IsT P w s.heap k x) (hu : A.units < cLine) {Q : SetFound → Shared → Prop}
    (hin : k ∈ L.map (·.2) → Q (.there none) s)
    (hout : ∀ K, k ∉ L.map (·.2) → way t.mask (thash P w k) K ∉ t.place.toList → (∀ c, c < K → way t.mask (thash P w k) c ∈ t.place.toList) → Q (.free (way t.mask (thash P w k) K) false) s) :
    wpAny (model P w) A (setSearch a (.ref x) (thash P w k) true) Q E s := by
  have hroom := R.roomy
  obtain ⟨K, hKf, hK, hKb⟩ := R.tb.free (by rw [List.length_map]; omega) (thash P w k)
  have hbig := turns_le _ R.tb.msk
  unfold setSearch
  refine look_from R hx hu hKf hK hKb hin (fun hn => hout K hn hK hKb) 100000 0 none rfl (Nat.zero_le _) (by omega) fun i p hp hk => ?_
  have hi : (L.map fun p => thash P w p.2)[i]? = some (thash P w k) := by
    rw [List.getElem?_map, hp, ← hk]
    rfl
  have hil : i < t.place.toList.length := by
    rw [Array.length_toList, R.pl]
    exact (List.getElem?_eq_some_iff.mp hp).1
  have hj := List.getElem?_eq_getElem hil
  obtain ⟨c, hc, e⟩ := R.tb.ahead hK hi hj
  exact ⟨c, Nat.zero_le _, hc, by rw [hj, e]⟩
end
end Bs
/-! ### adding, growing -/
namespace Bs
open PySem PySem.Spec PyProof.Rows L2
section
variable {P : Program} {w : World} {A : Around} {E : Value → Shared → Prop} {s : Shared}
variable {a : Addr} {L : List (Addr × List Int)} {es : Array (Int × Value)} {ep : Nat} {t : SetTable}
/-- the table grows to the mask M -/
theorem grow_at {o : Obj} (ho : s.heap.get? a = some o) (hex : o.ExactSet) (hd : o.data = .set es ep t) (hrows : es.toList = rowsOf P w L) (hsz : t.place.size = L.length) (hdm : t.dummies = #[]) (hfl : L.length ≤ t.mask)
    (nd : (L.map (·.2)).Nodup) (tup : ∀ p ∈ L, IsT P w s.heap p.2 p.1) (pl : t.plain = true) (ld : w.params.followText "set-order" = true ∨ t.led = true) {wanted M : Nat}
    (hw : SetTable.sizeAbove wanted = M + 1) (hM : Msk M) (hn : L.length * 5 < M * 3) {Q : Unit → Shared → Prop}
    (hQ : ∀ h' L' es' ep' t', Heap.SameBut a s.heap h' → SetB P w h' a L' es' ep' t' → L'.Perm L → Q () { s with heap := h' }) : wpAny (model P w) A (setRelay a wanted) Q E s := by
  have hsl := rows_len hrows
  have hMb : M ≤ 8191 := by
    have q : ∀ m ∈ masks, m ≤ 8191 := by decide
    exact q M hM
  obtain ⟨t', order, e, hp, T, em, el, ep'⟩ := relay_ok t (hs := es.map (·.1)) (wanted := wanted) (by rw [hw]; rfl) hM (by rw [Array.size_map, hsl]; omega)
  rw [Array.size_map, hsl] at hp
  obtain ⟨L2, r1, r2, r3⟩ := order_rows L es order hrows hp
  rw [← r3] at T
  have hs2 : (order.filterMap (es[·]?)).size = es.size := by rw [rows_len r1, r2.length_eq, hsl]
  rw [setRelay_eq]
  refine wpAny_bind (wpAny_setState_of ho hd (by rw [hsl]; exact fits_len hdm hsz hfl) ?_)
  dsimp only
  refine wp_if_neg (by rw [sizeLine_eq, hw]; omega) ?_
  try refine wpAny_bind (wpAny_pure ?_)
  rw [e]
  dsimp only
  refine wpAny_bind ?_
  refine wp_if_neg (by rw [hs2]; simp) ?_
  try refine wpAny_bind (wpAny_pure ?_)
  refine wpAny_pure ?_
  dsimp only
  refine wpAny_storeSet_of ho hd ?_ (by rw [hs2, hsl, sizeLine_eq]; omega)
  have sb : Heap.SameBut a s.heap (s.heap.update a (Obj.putSet (order.filterMap (es[·]?)) t')) := Heap.SameBut.update ..
  refine hQ _ L2 _ (ep + 1) t' sb ⟨⟨_, store_at ho hd, ⟨hex.1, hex.2.1, hex.2.2⟩, rfl⟩, r1, T, (r2.map (·.2)).nodup_iff.mpr nd, fun p hpm => isT_same (tup p (r2.mem_iff.mp hpm)) ho hd sb, by rw [ep', pl], by rw [el]; exact ld, by rw [r2.length_eq, em]; exact hn⟩ r2
/-- where a table is too full: which mask it has, how many it holds, and the next mask -/
def growB (m n M : Nat) : Bool := Nat.beq (SetTable.sizeAbove (SetTable.grown n)) (M + 1) && (Nat.ble (m * 3) (n * 5) && (Nat.blt ((n - 1) * 5) (m * 3) && Nat.blt (n * 5) (M * 3)))
theorem grow_all : (growB 7 5 31 && growB 31 19 127 && growB 127 77 511 && growB 511 307 2047 && growB 2047 1229 8191) = true := by decide +kernel
theorem grow_next {m n : Nat} (hm : Msk m) (h1 : m * 3 ≤ n * 5) (h2 : (n - 1) * 5 < m * 3) (hn : n ≤ 2000) : ∃ M, Msk M ∧ SetTable.sizeAbove (SetTable.grown n) = M + 1 ∧ n * 5 < M * 3 := by
  have g := grow_all
  simp only [Bool.and_eq_true] at g
  obtain ⟨⟨⟨⟨g1, g2⟩, g3⟩, g4⟩, g5⟩ := g
  have use : ∀ {m0 n0 M0 : Nat}, growB m0 n0 M0 = true → n = n0 → M0 ∈ masks → ∃ M, Msk M ∧ SetTable.sizeAbove (SetTable.grown n) = M + 1 ∧ n * 5 < M * 3 := by
    intro m0 n0 M0 g e hM
    subst e
    unfold growB at g
    simp only [Bool.and_eq_true] at g
    exact ⟨M0, hM, Nat.eq_of_beq_eq_true g.1, Nat.le_of_ble_eq_true g.2.2.2⟩
  unfold Msk masks at hm
  simp only [List.mem_cons, List.not_mem_nil, or_false] at hm
  rcases hm with rfl | rfl | rfl | rfl | rfl | rfl
  · exact use g1 (by omega) (by decide)
  · exact use g2 (by omega) (by decide)
  · exact use g3 (by omega) (by decide)
  · exact use g4 (by omega) (by decide)
  · exact use g5 (by omega) (by decide)
  · omega
/-- one tuple added -/
theorem put_in (R : SetB P w s.heap a L es ep t) {x : Addr} {k : List Int} (hx : IsT P w s.heap k x) (hu : A.units < cLine) (hfew : L.length + 1 ≤ 2000) {Q : Bool → Shared → Prop}
    (hQ : ∀ b h' L' es' ep' t', Heap.SameBut a s.heap h' → SetB P w h' a L' es' ep' t' → (k ∈ L.map (·.2) → L' = L) → (k ∉ L.map (·.2) → L'.Perm ((x, k) :: L)) → Q b { s with heap := h' }) :
    wpAny (model P w) A (setAddHashed a (.ref x) (thash P w k)) Q E s := by
  obtain ⟨o, ho, hex, hd⟩ := R.obj
  have hsl := rows_len R.ent
  have hroom := R.roomy
  unfold setAddHashed
  refine wpAny_holding ?_
  rw [show (100000 : Nat) = 99999 + 1 from rfl, setAddHashedIn_succ]
  refine wpAny_bind (wpAny_setState_of ho hd R.ok ?_)
  dsimp only
  refine wp_if_neg (by simp [byScan, Value.scannable]) ?_
  try refine wpAny_bind (wpAny_pure ?_)
  refine wpAny_bind (look_at R hx hu (fun hm => ?_) fun K hm hK hb => ?_)
  · dsimp only
    exact wpAny_pure (hQ false s.heap L es ep t (Heap.SameBut.refl a s.heap) R (fun _ => rfl) fun z => absurd hm z)
  · dsimp only
    refine wpAny_bind (wpAny_setState_of ho hd R.ok ?_)
    dsimp only
    obtain ⟨p, hp⟩ : ∃ p, SetTable.below t.place (way t.mask (thash P w k) K) = p := ⟨_, rfl⟩
    obtain ⟨q2, q3, q9⟩ := R.tb.put hp hK hb
    have hp2 : (t.put (way t.mask (thash P w k) K)).2 = p := hp
    have hp1 : (t.put (way t.mask (thash P w k) K)).1.plain = true := R.pln
    have hlm : (t.put (way t.mask (thash P w k) K)).1.led = t.led := rfl
    have hmm : (t.put (way t.mask (thash P w k) K)).1.mask = t.mask := rfl
    generalize hpt : t.put (way t.mask (thash P w k) K) = pt at q3 q9 hp1 hp2 hlm hmm ⊢
    obtain ⟨t1, p'⟩ := pt
    dsimp only at q3 q9 hp1 hp2 hlm hmm ⊢
    subst hp2
    first
      | (refine wpAny_bind ?_; refine wp_if_pos hp1 ?_; refine hashBy_tup hx ?_)
      | refine wp_if_pos hp1 (wpAny_bind (hashBy_tup hx ?_))
    simp only [if_true]
    have pm := put_perm L p' (x, k)
    have hin : (SetTable.insertAt es p' (thash P w k, Value.ref x)).toList = rowsOf P w (L.take p' ++ (x, k) :: L.drop p') := by
      rw [SetTable.toList_insertAt, rows_put, R.ent]
    have hhs : (L.take p' ++ (x, k) :: L.drop p').map (fun p => thash P w p.2) = (L.map fun p => thash P w p.2).take p' ++ thash P w k :: (L.map fun p => thash P w p.2).drop p' := by
      rw [List.map_append, List.map_cons, List.map_take, List.map_drop]
    rw [← hhs] at q3
    rw [List.length_map] at q9
    have hlen : (L.take p' ++ (x, k) :: L.drop p').length = L.length + 1 := pm.length_eq
    generalize hes1 : SetTable.insertAt es p' (thash P w k, Value.ref x) = es1 at hin ⊢
    generalize hL1 : L.take p' ++ (x, k) :: L.drop p' = L1 at pm hlen q3 hin
    have nd1 : (L1.map (·.2)).Nodup := by
      rw [(pm.map (·.2)).nodup_iff, List.map_cons]
      exact List.nodup_cons.mpr ⟨hm, R.once⟩
    have hes : es1.size = L.length + 1 := by rw [rows_len hin, hlen]
    refine wpAny_bind (wpAny_storeSet_of ho hd ?_ (by rw [hes, sizeLine_eq]; omega))
    have sb : Heap.SameBut a s.heap (s.heap.update a (Obj.putSet es1 t1)) := Heap.SameBut.update ..
    have ho1 := store_at (es' := es1) (t' := t1) ho hd
    generalize s.heap.update a (Obj.putSet es1 t1) = h1 at sb ho1 ⊢
    have tup1 : ∀ p ∈ L1, IsT P w h1 p.2 p.1 := fun p hp => by
      rcases List.mem_cons.mp (pm.mem_iff.mp hp) with e | hp
      · rw [e]
        exact isT_same hx ho hd sb
      · exact isT_same (R.tups p hp) ho hd sb
    have ld1 : w.params.followText "set-order" = true ∨ t1.led = true := by rw [hlm]; exact R.ldd
    have hps : t1.place.size = L1.length := by rw [q3.len, List.length_map]
    by_cases hf : t1.tooFull = true
    · first
        | (refine wpAny_bind ?_; refine wp_if_pos (by simp [hf]) ?_)
        | (refine wp_if_pos (by simp [hf]) ?_; refine wpAny_bind ?_)
      have hfull : t.mask * 3 ≤ (L.length + 1) * 5 := by
        have h := hf
        unfold SetTable.tooFull at h
        rw [decide_eq_true_eq, q9, hmm] at h
        exact h
      rw [hsl]
      obtain ⟨M, hM, hM2, hM3⟩ := grow_next (n := L.length + 1) R.tb.msk hfull (by rw [Nat.add_sub_cancel]; exact hroom) hfew
      refine grow_at (s := { s with heap := h1 }) ho1 ⟨hex.1, hex.2.1, hex.2.2⟩ rfl hin hps q3.clean (by rw [hlen, hmm]; omega) nd1 tup1 hp1 ld1 hM2 hM (by rw [hlen]; exact hM3) ?_
      intro h2 L2 es2 ep2 t2 sb2 R2 pm2
      exact wpAny_pure (hQ true h2 L2 es2 ep2 t2 (sb.trans sb2) R2 (fun z => absurd z hm) fun _ => pm2.trans pm)
    · first
        | refine wp_if_neg (by simp [hf]) ?_
        | (refine wpAny_bind ?_; refine wp_if_neg (by simp [hf]) ?_; refine wpAny_pure ?_)
      have hroom1 : L1.length * 5 < t1.mask * 3 := by
        have h := hf
        unfold SetTable.tooFull at h
        rw [decide_eq_true_eq, q9] at h
        rw [hlen]
        omega
      exact wpAny_pure (hQ true h1 L1 es1 (ep + 1) t1 sb ⟨⟨_, ho1, ⟨hex.1, hex.2.1, hex.2.2⟩, rfl⟩, hin, q3, nd1, tup1, hp1, ld1, hroom1⟩ (fun z => absurd z hm) fun _ => pm)
end
end Bs
/-! ### set(a list of tuples) -/
namespace Bs
open PySem PySem.Spec PyProof.Rows L2
section
variable {P : Program} {w : World} {A : Around} {E : Value → Shared → Prop} {s : Shared}
theorem SetB.keep {h h' : Heap} {a : Addr} {L : List (Addr × List Int)} {es : Array (Int × Value)} {ep : Nat} {t : SetTable} (R : SetB P w h a L es ep t) (ha : ∀ o, h.get? a = some o → h'.get? a = some o) (ht : ∀ p ∈ L, IsT P w h' p.2 p.1) : SetB P w h' a L es ep t := by
  obtain ⟨o, ho, r⟩ := R.obj
  exact ⟨⟨o, ha o ho, r⟩, R.ent, R.tb, R.once, ht, R.pln, R.ldd, R.roomy⟩
/-- the object of a new set -/
abbrev newSet (w : World) : Obj := { cls := .type "set", dict := none, data := .set #[] 0 (.fresh 0 0 (!w.params.followText "set-order")) }
theorem setB_new {h : Heap} {a : Addr} (ho : h.get? a = some (newSet w)) : SetB P w h a [] #[] 0 (.fresh 0 0 (!w.params.followText "set-order")) where
  obj := ⟨_, ho, ⟨rfl, rfl, rfl⟩, rfl⟩
  ent := rfl
  tb := ⟨List.Pairwise.nil, rfl, rfl, by show (7 : Nat) ∈ masks; decide, fun i h j hi => by simp at hi⟩
  once := List.nodup_nil
  tups := fun p hp => by cases hp
  pln := rfl
  ldd := by
    cases e : w.params.followText "set-order" with
    | true => exact .inl rfl
    | false => exact .inr rfl
  roomy := by show 0 * 5 < 7 * 3; decide
end
end Bs
namespace Bs
open PySem PySem.Spec PyProof.Rows L2
section
variable {P : Program} {w : World} {A : Around} {E : Value → Shared → Prop}
theorem fill_loop {I : Addr} {fp wr : List Addr} {G : Array GenState → Array GenState → Prop} {n : Nat} {Pv : Nat → Value → Prop} {St : Nat → Shared → Prop} {R : Result → Shared → Prop}
    (W : WalksS P w A.in1 I fp wr G n Pv St) (S : Addr) (hSf : S ∉ fp) (ks : List (Addr × List Int)) (hn : n = ks.length) (hfew : ks.length ≤ 2000) (hval : ∀ i v, Pv i v → ∃ p, ks[i]? = some p ∧ v = .ref p.1)
    (h0 : Heap) (hk : ∀ p ∈ ks, IsT P w h0 p.2 p.1) (hS0 : h0.get? S = none) (hw0 : ∀ b ∈ wr, h0.get? b = none) (hu : A.in1.units < cLine) :
    ∀ (d i : Nat) (s : Shared), i + d = n → St i s → (∀ b o, h0.get? b = some o → s.heap.get? b = some o) → (∃ L es ep t, SetB P w s.heap S L es ep t ∧ Got ks i L) →
      (∀ s' L es ep t, Moved (S :: wr) G s s' → SetB P w s'.heap S L es ep t → Got ks n L → (∀ b o, h0.get? b = some o → s'.heap.get? b = some o) → R (.ok (.ret .none)) s') →
      codeAny (model P w) A (.builtin "set.update.loop" ⟨[.ref S, .ref I], []⟩) R s := by
  have hSw : S ∉ wr := fun h => hSf (W.sub _ h)
  have wide : ∀ b ∈ wr, b ∈ S :: wr := fun b hb => List.mem_cons_of_mem _ hb
  have stay : ∀ {s s' : Shared}, Moved wr G s s' → (∀ b o, h0.get? b = some o → s.heap.get? b = some o) → ∀ b o, h0.get? b = some o → s'.heap.get? b = some o := fun mv q b o e =>
    mv.heap b o (fun hb => by rw [hw0 b hb] at e; cases e) (q b o e)
  have ofL : ∀ {i : Nat} {L : List (Addr × List Int)}, Got ks i L → ∀ p ∈ L, p ∈ ks := fun g p hp => List.mem_of_mem_take (g.sub p hp)
  intro d
  induction d with
  | zero =>
    intro i s hi hst hkp ⟨L, es, ep, t, B, g⟩ hR
    obtain rfl : i = n := hi
    refine codeAny_builtin F.entry_set_update_loop ?_
    rw [Around.under_plainId F.plain_set_update_loop _]
    show wpAny _ A.in1 (pyNext (.ref I) >>= _) _ _ s
    refine wpAny_bind (W.done s _ _ hst fun s' mv => ?_)
    have hkp' := stay mv hkp
    exact wpAny_pure (hR s' L es ep t (mv.mono wide) (B.keep (fun o e => mv.heap S o hSw e) fun p hp => isT_keep (hk p (ofL g p hp)) hkp') g hkp')
  | succ d ih =>
    intro i s hi hst hkp ⟨L, es, ep, t, B, g⟩ hR
    have hlt : i < n := by omega
    refine codeAny_builtin F.entry_set_update_loop ?_
    rw [Around.under_plainId F.plain_set_update_loop _]
    show wpAny _ A.in1 (pyNext (.ref I) >>= _) _ _ s
    refine wpAny_bind (W.item i s _ _ hlt hst fun v s' hP hst' mv => ?_)
    obtain ⟨p, hp, rfl⟩ := hval i v hP
    have hkp' := stay mv hkp
    have B' : SetB P w s'.heap S L es ep t := B.keep (fun o e => mv.heap S o hSw e) fun q hq => isT_keep (hk q (ofL g q hq)) hkp'
    have hx : IsT P w s'.heap p.2 p.1 := isT_keep (hk p (List.mem_of_getElem? hp)) hkp'
    have glen := g.len
    show wpAny _ A.in1 (holding [Value.ref p.1] (setAdd S (.ref p.1)) >>= _) _ _ s'
    refine wpAny_bind (wpAny_holding ?_)
    unfold setAdd
    refine wpAny_holding (wpAny_bind (wpAny_pyHash_tuple hu hx ?_))
    refine put_in (s := { s' with toks := s'.toks + (p.2.length + 1) }) B' hx hu (by omega) fun b h' L' es' ep' t' sb B2 c1 c2 => ?_
    have g' : Got ks (i + 1) L' := by
      by_cases c : p.2 ∈ L.map (·.2)
      · rw [c1 c]
        exact g.same hp c
      · exact g.more hp (c2 c)
    have hkp2 : ∀ b o, h0.get? b = some o → h'.get? b = some o := fun b o e => (sb.2 b (fun z => by rw [z, hS0] at e; cases e)).trans (hkp' b o e)
    refine wpAny_pure ⟨plainId_quiet F.plain_set_update_loop _, ih (i + 1) _ (by omega) (W.frame _ s' _ _ hst' (Nat.le_add_right _ _) fun b hb o e => ?_) hkp2 ⟨L', es', ep', t', B2, g'⟩ fun s2 L2 es2 ep2 t2 mv2 B3 g2 hkp3 => ?_⟩
    · exact (sb.2 b (fun z : b = S => hSf (z ▸ hb))).trans e
    · refine hR s2 L2 es2 ep2 t2 (Moved.trans W.gtrans ((mv.mono wide).then_heap (Nat.le_add_right _ _) fun b o hb e => ?_) mv2) B3 g2 hkp3
      exact (sb.2 b (fun z : b = S => hb (by rw [z]; exact List.mem_cons_self))).trans e
end
end Bs
namespace Bs
open PySem PySem.Spec PyProof.Rows L2
section
variable {P : Program} {w : World} {A : Around} {E : Value → Shared → Prop} {s : Shared}
theorem none_from {h : Heap} {b : Addr} (hb : h.objs.size ≤ b) : h.get? b = none := by
  cases q : h.get? b with
  | none => rfl
  | some o => exact absurd (Heap.lt_size q) (Nat.not_lt.mpr hb)
/-- set(xs), xs a list of at most 2000 tuples of ints -/
theorem set_of_tups {l : Addr} {items : Array Value} (ks : List (Addr × List Int)) {Q : Value → Shared → Prop} (hh : A.handled = none) (hl : s.heap.IsList l items) (hit : items.toList = ks.map fun p => Value.ref p.1)
    (hk : ∀ p ∈ ks, IsT P w s.heap p.2 p.1) (hfew : ks.length ≤ 2000) (hu : A.units + 3 < cLine)
    (h : ∀ (h' : Heap) (tk : Nat) L es ep t, SetB P w h' s.heap.objs.size L es ep t → Got ks ks.length L → (∀ b o, s.heap.get? b = some o → h'.get? b = some o) → Q (.ref s.heap.objs.size) { s with heap := h', toks := tk }) :
    wpAny (model P w) A (call (.type "set") [.ref l]) Q E s := by
  have hsz : items.size = ks.length := by rw [← Array.length_toList, hit, List.length_map]
  obtain ⟨c, tl, hmro⟩ := F.called_set.mro
  have hmade := F.called_set.made
  have hsub := F.called_set.sub
  refine wpAny_call (codeAny_of_tree ?_)
  show wpAny _ _ (callAny (.type "set") _) _ _ _
  refine wpAny_pure ⟨Code.quiet_builtin _ (by decide +kernel), codeAny_builtin F.entry_type_call ?_⟩
  rw [Around.under_plain (weight_type_call_type "set" [.ref l] []) rfl]
  have f1 := F.called_set.notType
  have f2 := F.called_set.canCreate
  have f3 := F.typeCall_set_1 (.ref l)
  repeat (any_goals (first | assumption | wp_step))
  refine codeAny_mono (code_set_led1 (.ref l) (E := E) (Q₁ := fun ob s₁ => ob = .ref s.heap.objs.size ∧ s₁ = { s with heap := s.heap.push (newSet w) }) ⟨rfl, rfl⟩) fun r s₁ hr => ?_
  cases r with
  | error e => exact hr
  | ok fl =>
    cases fl with
    | next => exact hr.elim
    | brk => exact hr.elim
    | cont => exact hr.elim
    | ret obj =>
      obtain ⟨rfl, rfl⟩ := hr
      have hS : (s.heap.push (newSet w)).get? s.heap.objs.size = some (newSet w) := Heap.get?_push_size _ rfl
      have hT : Shared.TypeIs { s with heap := s.heap.push (newSet w) } (.ref s.heap.objs.size) "set" := ⟨_, hS, rfl⟩
      have g1 := F.called_set.init.lookup
      have g2 := F.called_set.init.bind (.ref s.heap.objs.size)
      repeat (any_goals (first | assumption | wp_step))
      refine codeAny_mono (codeAny_call_builtin (R := wants (fun r s₂ => r = .none ∧ ∃ h' tk L es ep t, s₂ = { s with heap := h', toks := tk } ∧ SetB P w h' s.heap.objs.size L es ep t ∧ Got ks ks.length L ∧ ∀ b o, s.heap.get? b = some o → h'.get? b = some o) E)
        F.called_set.init.plain F.entry_set_init (check_set_init_1 hT ?_)) fun r₂ s₂ hr₂ => ?_
      · obtain ⟨⟨ocls, odict, odata, oslots⟩, hol, hcl, nl, hdl⟩ := hl
        simp only at hcl hdl
        subst hcl
        subst hdl
        have hol' : (s.heap.push (newSet w)).get? l = some { cls := .type "list", dict := odict, data := .seq items nl, slots := oslots } := Heap.get?_push_of_some _ hol
        have k1 := F.sub_list_set
        have k2 := F.sub_list_frozenset
        have k3 : (Value.type "list" == Value.type "dict") = false := by decide
        have hl1 : (s.heap.push (newSet w)).IsList l items := ⟨_, hol', rfl, nl, rfl⟩
        unfold Builtin.«set.__init__» noKeywords Builtin.Frozenset.updateFrom
        generalize hPI : pyIter = PI
        wp_walk
        subst hPI
        refine wpAny_pyIter_list hl1 (wpAny_bind (wpAny_runValue ?_))
        have hlS : l < s.heap.objs.size := Heap.lt_size hol
        have hh3 : A.in1.in1.in1.handled = none := by simp [hh]
        have hzz : (s.heap.push (newSet w)).objs.size = s.heap.objs.size + 1 := Heap.size_push ..
        have hneI : l ≠ (s.heap.push (newSet w)).objs.size := by rw [hzz]; exact Nat.ne_of_lt (Nat.lt_succ_of_lt hlS)
        have hSf : s.heap.objs.size ∉ [(s.heap.push (newSet w)).objs.size, l] := by
          intro z
          rw [hzz] at z
          rcases List.mem_cons.mp z with e | e
          · exact absurd e (Nat.ne_of_lt (Nat.lt_succ_self _))
          · exact absurd (List.mem_singleton.mp e) (Nat.ne_of_gt hlS)
        have hval : ∀ (i : Nat) (v : Value), items[i]? = some v → ∃ p, ks[i]? = some p ∧ v = .ref p.1 := fun i v hv => by
          rw [← Array.getElem?_toList, hit, List.getElem?_map] at hv
          obtain ⟨p, hp, e⟩ := Option.map_eq_some_iff.mp hv
          exact ⟨p, hp, e.symm⟩
        refine fill_loop ((Walks.list hh3 _ l hneI items).toS) s.heap.objs.size hSf ks hsz hfew hval s.heap hk (none_from (Nat.le_refl _)) (fun b hb => none_from (by rw [List.mem_singleton.mp hb, hzz]; exact Nat.le_succ _)) hu items.size 0 _ (Nat.zero_add _)
          ⟨⟨_, Heap.get?_push_size _ rfl, rfl, rfl⟩, hl1.push _⟩ (fun b o e => Heap.get?_push_of_some _ (Heap.get?_push_of_some _ e)) ⟨[], #[], 0, _, setB_new (Heap.get?_push_of_some _ hS), Got.zero ks⟩ fun s' L es ep t mv B g hkp => ?_
        obtain ⟨h', g2, d', tk', os'⟩ := s'
        have eg : g2 = s.gens := mv.gens
        have ed : d' = s.drawn := mv.drawn
        have eo : os' = s.os := mv.os
        subst eg
        subst ed
        subst eo
        refine wpAny_pure ?_
        rw [hsz] at g
        exact wpAny_pure ⟨rfl, h', tk', L, es, ep, t, rfl, B, g, hkp⟩
      · cases r₂ with
        | error e => exact hr₂
        | ok fl₂ =>
          cases fl₂ with
          | next => exact hr₂.elim
          | brk => exact hr₂.elim
          | cont => exact hr₂.elim
          | ret r =>
            obtain ⟨rfl, h', tk, L, es, ep, t, rfl, B, g, hk'⟩ := hr₂
            repeat (any_goals (first | assumption | wp_step))
            exact h _ _ _ _ _ _ B g hk'
end
end Bs
namespace AD
/-! ### the law's primes -/
def PS0 : List Nat := [3, 5, 7, 11, 13, 17, 19, 23, 29, 31, 37, 41, 43, 47, 53, 59, 61]
def PG0 : List Nat := [97, 101, 257, 331, 499]
def lrAux (p : Nat) : Nat → Nat → Nat
  | 0, g => g
  | f + 1, g => match Nat.beq (plen p g) (p - 1) with
    | true => g
    | false => lrAux p f (g + 1)
/-- the least root -/
def lr (p : Nat) : Nat := lrAux p p 1
def goodB (p : Nat) : Bool := Nat.ble 3 p && (Nat.ble p 2000 && (primeB p && ferB p))
def lrB (p : Nat) : Bool := Nat.ble 1 (lr p) && (Nat.blt (lr p) p && (Nat.beq (plen p (lr p)) (p - 1) && allTo (fun x => !Nat.beq (plen p (x + 1)) (p - 1)) (lr p - 1)))
theorem good_of {p : Nat} (h : goodB p = true) : Good p := by
  unfold goodB at h
  simp only [Bool.and_eq_true] at h
  exact ⟨Nat.le_of_ble_eq_true h.1, Nat.le_of_ble_eq_true h.2.1, h.2.2.1, h.2.2.2⟩
theorem lr_of {p : Nat} (G : Good p) (h : lrB p = true) : Root p (lr p) ∧ ∀ g, 1 ≤ g → g < lr p → plen p g ≠ p - 1 := by
  unfold lrB at h
  simp only [Bool.and_eq_true] at h
  refine ⟨⟨G, Nat.le_of_ble_eq_true h.1, Nat.le_of_ble_eq_true h.2.1, Nat.eq_of_beq_eq_true h.2.2.1⟩, fun g g1 g2 z => ?_⟩
  have k := allTo_at h.2.2.2 (g - 1) (by omega)
  have e : g - 1 + 1 = g := by omega
  rw [e, z] at k
  rw [show Nat.beq (p - 1) (p - 1) = true from Nat.beq_refl _] at k
  cases k
theorem good_all : (PS0 ++ PG0).all (fun p => goodB p && lrB p) = true := by decide +kernel
theorem rt_all : (PS0 ++ PG0).all (fun p => rtB p) = true := by decide +kernel
theorem good71 : (goodB 71 && lrB 71) = true := by decide +kernel
theorem rt71 : rtB 71 = true := by decide +kernel
/-- what is known of a law's prime -/
structure Prm (p : Nat) : Prop where
  good : Good p
  rt : rtB p = true
  root : Root p (lr p)
  least : ∀ g, 1 ≤ g → g < lr p → plen p g ≠ p - 1
theorem prm_mk {p : Nat} (h1 : (goodB p && lrB p) = true) (h2 : rtB p = true) : Prm p := by
  rw [Bool.and_eq_true] at h1
  have G := good_of h1.1
  obtain ⟨a, b⟩ := lr_of G h1.2
  exact ⟨G, h2, a, b⟩
theorem prm_in {p : Nat} (h : p ∈ PS0 ++ PG0) : Prm p := prm_mk (List.all_eq_true.mp good_all p h) (List.all_eq_true.mp rt_all p h)
theorem prm71 : Prm 71 := prm_mk good71 rt71
theorem Prm.rootB {p g : Nat} (P : Prm p) (h1 : 1 ≤ g) (h2 : g < p) : rootB p g = decide (plen p g = p - 1) := rt_of P.rt h1 h2
theorem Root.rootB {p g : Nat} (R : Root p g) (P : Prm p) : AD.rootB p g = true := by
  rw [P.rootB R.one R.lt]
  exact decide_eq_true R.len
theorem Prm.lroot {p : Nat} (P : Prm p) : AD.rootB p (lr p) = true := P.root.rootB P
theorem Prm.lnot {p g : Nat} (P : Prm p) (h1 : 1 ≤ g) (h2 : g < lr p) : AD.rootB p g = false := by
  have h3 := P.root.lt
  rw [P.rootB h1 (by omega)]
  exact decide_eq_false (P.least g h1 h2)
end AD
namespace AD
/-! ### a plan's rows -/
/-- what is left of a beginning -/
def be (p : Nat) (b : Int) : Nat := (b % ((p : Int) - 1)).toNat
/-- one more than the row of a column -/
def rowA (p g : Nat) (b : Int) (c : Nat) : Nat := g ^ (be p b + c) % p
theorem be_cast {p : Nat} (hp : 3 ≤ p) (b : Int) : ((be p b : Nat) : Int) = b % ((p : Int) - 1) := by
  unfold be
  exact Int.toNat_of_nonneg (Int.emod_nonneg _ (by omega))
theorem be_lt {p : Nat} (hp : 3 ≤ p) (b : Int) : be p b < p - 1 := by
  have h := be_cast hp b
  have h2 := Int.emod_lt_of_pos b (show (0 : Int) < (p : Int) - 1 by omega)
  omega
theorem be_add {p : Nat} (hp : 3 ≤ p) (b : Int) (c : Nat) : be p (b + c) = (be p b + c) % (p - 1) := by
  have h := be_cast hp (b + c)
  have h2 := be_cast hp b
  have e : ((p - 1 : Nat) : Int) = (p : Int) - 1 := by omega
  have h3 : (((be p b + c) % (p - 1) : Nat) : Int) = (b + c) % ((p : Int) - 1) := by
    rw [Int.natCast_emod, e, Int.natCast_add, h2, Int.emod_add_emod]
  omega
theorem be_per {p : Nat} (b : Int) : be p (b + p - 1) = be p b := by
  unfold be
  rw [show b + (p : Int) - 1 = b + ((p : Int) - 1) by omega, Int.add_emod_right]
theorem Root.row_be {p g : Nat} (R : Root p g) (b : Int) (c : Nat) : g ^ be p (b + c) % p = rowA p g b c := by
  rw [be_add R.good.lo, R.per]
  rfl
theorem Root.row_pos {p g : Nat} (R : Root p g) (b : Int) (c : Nat) : 1 ≤ rowA p g b c := R.good.pow_pos R.ne _
theorem Root.row_lt {p g : Nat} (R : Root p g) (b : Int) (c : Nat) : rowA p g b c < p := Nat.mod_lt _ (by have := R.good.lo; omega)
theorem rowA_per {p g : Nat} (b : Int) (c : Nat) : rowA p g (b + p - 1) c = rowA p g b c := by
  unfold rowA
  rw [be_per]
theorem Root.row_next {p g : Nat} (R : Root p g) (b : Int) {c : Nat} (h : 1 ≤ c) : rowA p g (b + 1) (c - 1) = rowA p g b c := by
  rw [← R.row_be, ← R.row_be]
  rw [show b + 1 + ((c - 1 : Nat) : Int) = b + (c : Int) by omega]
theorem Root.row_inj {p g c d : Nat} {b : Int} (R : Root p g) (hc : c < p - 1) (hd : d < p - 1) (e : rowA p g b c = rowA p g b d) : c = d := by
  have h := R.injm e
  have lo := R.good.lo
  rcases Nat.lt_trichotomy c d with z | z | z
  · exact absurd (by rw [Nat.add_assoc, show c + (d - c) = d by omega]; exact e) (R.inj0 (i := be p b + c) (d := d - c) (by omega) (by omega))
  · exact z
  · exact absurd (by rw [Nat.add_assoc, show d + (c - d) = c by omega]; exact e.symm) (R.inj0 (i := be p b + d) (d := c - d) (by omega) (by omega))
/-- each row has its column -/
theorem Root.row_onto {p g x : Nat} (R : Root p g) (b : Int) (h1 : 1 ≤ x) (h2 : x < p) : ∃ c, c < p - 1 ∧ rowA p g b c = x := by
  obtain ⟨k, hk, e⟩ := R.onto h1 h2
  have lo := R.good.lo
  have hb := be_lt lo b
  refine ⟨(k + (p - 1) - be p b) % (p - 1), Nat.mod_lt _ (by omega), ?_⟩
  unfold rowA
  rw [← R.per (be p b + _), Nat.add_mod_mod, show be p b + (k + (p - 1) - be p b) = k + (p - 1) by omega, Nat.add_mod_right, R.per]
  exact e
/-- the rows, each once -/
def rowsN (p g : Nat) (b : Int) : List Nat := (List.range (p - 1)).map fun c => rowA p g b c - 1
def rowsI (p g : Nat) (b : Int) : List Int := (List.range (p - 1)).map fun c => ((rowA p g b c : Nat) : Int) - 1
theorem rowsI_len (p g : Nat) (b : Int) : (rowsI p g b).length = p - 1 := by unfold rowsI; rw [List.length_map, List.length_range]
theorem rowsI_at {p g c : Nat} {b : Int} (h : c < p - 1) : (rowsI p g b)[c]? = some (((rowA p g b c : Nat) : Int) - 1) := by
  unfold rowsI
  rw [List.getElem?_map, List.getElem?_range h]
  rfl
theorem Root.rows_nodup {p g : Nat} (R : Root p g) (b : Int) : (rowsN p g b).Nodup := map_nodup List.nodup_range fun i hi j hj e => by
  have a := R.row_pos b i
  have c := R.row_pos b j
  exact R.row_inj (b := b) (List.mem_range.mp hi) (List.mem_range.mp hj) (by omega)
/-- a list of n numbers below n, each once, is the first n in some order -/
theorem perm_range : ∀ (n : Nat) (l : List Nat), l.Nodup → (∀ x ∈ l, x < n) → l.length = n → l.Perm (List.range n)
  | n, l, h1, h2, h3 => by
    refine (List.perm_ext_iff_of_nodup h1 List.nodup_range).mpr fun x => ⟨fun h => List.mem_range.mpr (h2 x h), fun h => nodup_full h1 h2 h3 (List.mem_range.mp h)⟩
theorem Root.rows_perm {p g : Nat} (R : Root p g) (b : Int) : (rowsN p g b).Perm (List.range (p - 1)) := by
  refine perm_range _ _ (R.rows_nodup b) (fun x hx => ?_) (by unfold rowsN; rw [List.length_map, List.length_range])
  obtain ⟨c, hc, e⟩ := List.mem_map.mp hx
  have h1 := R.row_pos b c
  have h2 := R.row_lt b c
  omega
theorem Root.rowsI_eq {p g : Nat} (R : Root p g) (b : Int) : rowsI p g b = (rowsN p g b).map fun n : Nat => (n : Int) := by
  unfold rowsI rowsN
  rw [List.map_map]
  refine List.map_congr_left fun c _ => ?_
  have h := R.row_pos b c
  show ((rowA p g b c : Nat) : Int) - 1 = ((rowA p g b c - 1 : Nat) : Int)
  omega
/-- sorted numbers in one order only -/
theorem sorted_unique : ∀ {l m : List Int}, l.Perm m → l.Pairwise (· ≤ ·) → m.Pairwise (· ≤ ·) → l = m := fun h1 h2 h3 =>
  h1.eq_of_pairwise (fun a b _ _ hab hba => Int.le_antisymm hab hba) h2 h3
theorem range_sorted (n : Nat) : ((List.range n).map fun i : Nat => (i : Int)).Pairwise (· ≤ ·) := by
  rw [List.pairwise_map]
  refine List.Pairwise.imp (fun h => ?_) List.pairwise_lt_range
  omega
/-- a turn of the first n numbers, sorted -/
theorem sorted_range {l : List Int} {m : List Nat} {n : Nat} (h1 : l.Perm (m.map fun i : Nat => (i : Int))) (h2 : m.Perm (List.range n)) (h3 : l.Pairwise (· ≤ ·)) : l = (List.range n).map fun i : Nat => (i : Int) :=
  sorted_unique (h1.trans (h2.map _)) h3 (range_sorted n)
end AD
namespace AD
theorem root1999 : Root 1999 3 := ⟨good_of (by decide +kernel), by decide, by decide, by decide +kernel⟩
theorem rb1999 : rootB 1999 3 = true := by decide +kernel
theorem root_lr {p g : Nat} (P : Prm p) (h : lr p = g) : Root p g := by
  rw [← h]
  exact P.root
theorem root73 : Root 7 3 := root_lr (prm_in (by decide)) (by decide +kernel)
theorem root32 : Root 3 2 := root_lr (prm_in (by decide)) (by decide +kernel)
end AD
namespace AD
/-! ### arrows counted around -/
theorem modsub {p a b : Nat} : ((a : Int) - (b : Int)) % (p : Int) = 0 ↔ a % p = b % p := by
  rw [← Int.emod_eq_emod_iff_emod_sub_eq_zero]
  constructor
  · intro h
    have h2 : ((a % p : Nat) : Int) = ((b % p : Nat) : Int) := by rw [Int.natCast_emod, Int.natCast_emod, h]
    exact Int.ofNat_inj.mp h2
  · intro h
    rw [← Int.natCast_emod, ← Int.natCast_emod, h]
theorem add_cancel_mod {p a b : Nat} (x : Nat) : (a + x) % p = (b + x) % p ↔ a % p = b % p := by
  rw [← modsub, ← modsub]
  rw [show (((a + x : Nat) : Int) - ((b + x : Nat) : Int)) = (a : Int) - (b : Int) by omega]
/-- what is to be the power of the column that is told -/
def tgt (p g d u : Nat) : Nat := u * ((g ^ d % p - 1) ^ (p - 2) % p) % p
theorem Root.apart_ne {p g d : Nat} (R : Root p g) (h1 : 1 ≤ d) (h2 : d ≤ p - 2) : (g ^ d % p - 1) % p ≠ 0 := by
  have lo := R.good.lo
  have a := R.good.pow_pos R.ne d
  have b := Nat.mod_lt (g ^ d) (show p > 0 by omega)
  have c : g ^ d % p ≠ 1 := (plen_spec p g (by omega)).2.2.1 d h1 (by rw [R.len]; omega)
  rw [Nat.mod_eq_of_lt (by omega)]
  omega
theorem Root.tgt_lt {p g d u : Nat} (R : Root p g) : tgt p g d u < p := Nat.mod_lt _ (by have := R.good.lo; omega)
theorem Root.tgt_pos {p g d u : Nat} (R : Root p g) (h1 : 1 ≤ d) (h2 : d ≤ p - 2) (u1 : 1 ≤ u) (u2 : u < p) : 1 ≤ tgt p g d u := by
  have lo := R.good.lo
  have a := R.apart_ne h1 h2
  have b : u % p ≠ 0 := by rw [Nat.mod_eq_of_lt u2]; omega
  refine Nat.pos_of_ne_zero ?_
  unfold tgt
  rw [Nat.mul_mod_mod]
  exact R.good.mul_ne b (R.good.pow_ne a _)
theorem Root.row_add {p g : Nat} (b : Int) (c d : Nat) : rowA p g b (c + d) = rowA p g b c * (g ^ d % p) % p := by
  unfold rowA
  rw [← Nat.add_assoc, Nat.pow_add, Nat.mul_mod]
theorem Root.row_mod {p g : Nat} (R : Root p g) (b : Int) (c : Nat) : rowA p g b (c % (p - 1)) = rowA p g b c := by
  unfold rowA
  rw [← R.per, Nat.add_mod_mod, R.per]
/-- the dot so far across is so far up, just at the column that is told -/
theorem Root.hit {p g d u c : Nat} {b : Int} (R : Root p g) (h1 : 1 ≤ d) (h2 : d ≤ p - 2) :
    ((((rowA p g b ((c + d) % (p - 1)) : Nat) : Int) - 1) - (((rowA p g b c : Nat) : Int) - 1) - (u : Int)) % (p : Int) = 0 ↔ rowA p g b c = tgt p g d u := by
  have lo := R.good.lo
  have a := R.apart_ne h1 h2
  have x1 := R.row_pos b c
  have x2 := R.row_lt b c
  rw [R.row_mod, Root.row_add]
  have hA := R.good.pow_pos R.ne d
  have eA : g ^ d % p = (g ^ d % p - 1) + 1 := by omega
  generalize hap : g ^ d % p - 1 = ap at *
  generalize hx : rowA p g b c = x at *
  have e1 : (((x * (g ^ d % p) % p : Nat) : Int) - 1) - ((x : Int) - 1) - (u : Int) = ((x * (g ^ d % p) % p : Nat) : Int) - ((u + x : Nat) : Int) := by omega
  rw [e1, modsub, Nat.mod_mod, eA, Nat.mul_add, Nat.mul_one, add_cancel_mod]
  have hi := R.good.inv a
  have e2 : tgt p g d u = u * (ap ^ (p - 2)) % p := by
    unfold tgt
    rw [hap, Nat.mul_mod_mod]
  rw [e2]
  constructor
  · intro h
    have h3 := mul_right_mod (ap ^ (p - 2)) h
    rw [Nat.mul_assoc, Nat.mul_comm ap, Nat.mul_mod, hi, Nat.mul_one, Nat.mod_mod, Nat.mod_eq_of_lt x2] at h3
    exact h3
  · intro h
    rw [h, Nat.mod_mul_mod, Nat.mul_assoc, Nat.mul_mod, hi, Nat.mul_one, Nat.mod_mod]
/-- the told column -/
theorem Root.hit_col {p g d u c c0 : Nat} {b : Int} (R : Root p g) (h1 : 1 ≤ d) (h2 : d ≤ p - 2) (hc : c < p - 1) (h0 : c0 < p - 1) (e : rowA p g b c0 = tgt p g d u) :
    ((((rowA p g b ((c + d) % (p - 1)) : Nat) : Int) - 1) - (((rowA p g b c : Nat) : Int) - 1) - (u : Int)) % (p : Int) = 0 ↔ c = c0 := by
  rw [R.hit h1 h2, ← e]
  exact ⟨fun h => R.row_inj hc h0 h, fun h => by rw [h]⟩
end AD
namespace AD
/-! ### how many different ones -/
section
variable {α : Type} [DecidableEq α]
theorem sub_len : ∀ {B A : List α}, B.Nodup → (∀ x ∈ B, x ∈ A) → B.length ≤ A.length
  | [], _, _, _ => Nat.zero_le _
  | b :: r, A, h, hs => by
    obtain ⟨h1, h2⟩ := List.nodup_cons.mp h
    have hb := hs b (List.mem_cons_self ..)
    have ih := sub_len (A := A.erase b) h2 fun x hx => by
      have ne : x ≠ b := fun e => h1 (e ▸ hx)
      exact (List.mem_erase_of_ne ne).mpr (hs x (List.mem_cons_of_mem _ hx))
    have hl := List.length_erase_of_mem hb
    have hp := List.length_pos_of_mem hb
    rw [List.length_cons]
    omega
theorem twice : ∀ {A : List α}, ¬ A.Nodup → ∃ a ∈ A, a ∈ A.erase a
  | [], h => absurd List.nodup_nil h
  | a :: r, h => by
    by_cases m : a ∈ r
    · exact ⟨a, List.mem_cons_self .., by rw [List.erase_cons_head]; exact m⟩
    · have h2 : ¬ r.Nodup := fun z => h (List.nodup_cons.mpr ⟨m, z⟩)
      obtain ⟨b, hb, hb2⟩ := twice h2
      refine ⟨b, List.mem_cons_of_mem _ hb, ?_⟩
      have ne : a ≠ b := fun e => m (e ▸ hb)
      rw [List.erase_cons_tail (by simpa using ne)]
      exact List.mem_cons_of_mem _ hb2
/-- B: those of A, each once -/
theorem once_len {A B : List α} (h1 : B.Nodup) (h2 : ∀ x ∈ B, x ∈ A) (h3 : ∀ x ∈ A, x ∈ B) : B.length ≤ A.length ∧ (B.length = A.length ↔ A.Nodup) := by
  have hle := sub_len h1 h2
  refine ⟨hle, fun e => ?_, fun h => Nat.le_antisymm hle (sub_len h h3)⟩
  by_cases z : A.Nodup
  · exact z
  · obtain ⟨a, ha, ha2⟩ := twice z
    have h4 := sub_len (A := A.erase a) h1 fun x hx => by
      by_cases y : x = a
      · rw [y]; exact ha2
      · exact (List.mem_erase_of_ne y).mpr (h2 x hx)
    have hl := List.length_erase_of_mem ha
    have hp := List.length_pos_of_mem ha
    omega
end
/-! ### arrows -/
/-- how far up the dot so far across is -/
def up (ns : List Int) (c d : Nat) : Int := ns.getD (c + d) 0 - ns.getD c 0
/-- no two arrows are alike -/
def Apt (ns : List Int) : Prop := ∀ d i j, 1 ≤ d → i < j → j + d < ns.length → up ns i d ≠ up ns j d
/-- all arrows, in turn -/
def arrowsTo (ns : List Int) (n one : Nat) : List (List Int) := (List.range' (one + 1) (n - (one + 1))).map fun other : Nat => [(other : Int) - (one : Int), ns.getD other 0 - ns.getD one 0]
def arrows (ns : List Int) : List (List Int) := (List.range ns.length).flatMap fun one => arrowsTo ns ns.length one
theorem nodup_flatMap {α β : Type} {f : α → List β} : ∀ {l : List α}, l.Nodup → (∀ a ∈ l, (f a).Nodup) → (∀ a ∈ l, ∀ b ∈ l, a ≠ b → ∀ x, x ∈ f a → x ∉ f b) → (l.flatMap f).Nodup
  | [], _, _, _ => List.nodup_nil
  | a :: r, h, h1, h2 => by
    obtain ⟨k1, k2⟩ := List.nodup_cons.mp h
    rw [List.flatMap_cons]
    refine List.nodup_append.mpr ⟨h1 a (List.mem_cons_self ..), nodup_flatMap k2 (fun b hb => h1 b (List.mem_cons_of_mem _ hb)) (fun b hb c hc => h2 b (List.mem_cons_of_mem _ hb) c (List.mem_cons_of_mem _ hc)), ?_⟩
    intro x hx y hy e
    subst e
    obtain ⟨b, hb, hxb⟩ := List.mem_flatMap.mp hy
    exact h2 a (List.mem_cons_self ..) b (List.mem_cons_of_mem _ hb) (fun e => k1 (e ▸ hb)) x hx hxb
theorem mem_arrowsTo {ns : List Int} {n one : Nat} {x : List Int} : x ∈ arrowsTo ns n one ↔ ∃ d, 1 ≤ d ∧ one + d < n ∧ x = [(d : Int), up ns one d] := by
  unfold arrowsTo
  rw [List.mem_map]
  constructor
  · rintro ⟨o, ho, rfl⟩
    rw [List.mem_range'_1] at ho
    refine ⟨o - one, by omega, by omega, ?_⟩
    unfold up
    rw [show one + (o - one) = o by omega, show ((o - one : Nat) : Int) = (o : Int) - (one : Int) by omega]
  · rintro ⟨d, h1, h2, rfl⟩
    refine ⟨one + d, List.mem_range'_1.mpr (by omega), ?_⟩
    unfold up
    rw [show ((one + d : Nat) : Int) - (one : Int) = (d : Int) by omega]
theorem arrows_apt (ns : List Int) : (arrows ns).Nodup ↔ Apt ns := by
  constructor
  · intro h d i j h1 h2 h3 e
    unfold arrows at h
    have hi : [(d : Int), up ns i d] ∈ arrowsTo ns ns.length i := mem_arrowsTo.mpr ⟨d, h1, by omega, rfl⟩
    have hj : [(d : Int), up ns i d] ∈ arrowsTo ns ns.length j := mem_arrowsTo.mpr ⟨d, h1, h3, by rw [e]⟩
    -- split the list at i and j
    have key : ∀ (l : List Nat) (f : Nat → List (List Int)) (i j : Nat) (x : List Int), (l.flatMap f).Nodup → l.Pairwise (· < ·) → i ∈ l → j ∈ l → i < j → x ∈ f i → x ∈ f j → False := by
      intro l
      induction l with
      | nil => intro f i j x _ _ hi; exact absurd hi (List.not_mem_nil)
      | cons a r ih =>
        intro f i j x hn hp hi hj hij xi xj
        rw [List.flatMap_cons] at hn
        obtain ⟨n1, n2, n3⟩ := List.nodup_append.mp hn
        obtain ⟨p1, p2⟩ := List.pairwise_cons.mp hp
        rcases List.mem_cons.mp hj with ej | ej
        · rcases List.mem_cons.mp hi with ei | ei
          · omega
          · have := p1 i ei
            omega
        · rcases List.mem_cons.mp hi with ei | ei
          · subst ei
            exact n3 x xi x (List.mem_flatMap.mpr ⟨j, ej, xj⟩) rfl
          · exact ih f i j x n2 p2 ei ej hij xi xj
    exact key _ _ i j _ h List.pairwise_lt_range (List.mem_range.mpr (by omega)) (List.mem_range.mpr (by omega)) h2 hi hj
  · intro h
    refine nodup_flatMap List.nodup_range (fun one _ => ?_) fun a ha b hb hab x xa xb => ?_
    · unfold arrowsTo
      refine map_nodup (List.nodup_range' 1) fun x _ y _ e => ?_
      have := (List.cons.inj e).1
      omega
    · obtain ⟨d, d1, d2, rfl⟩ := mem_arrowsTo.mp xa
      obtain ⟨d', _, d2', e⟩ := mem_arrowsTo.mp xb
      have e1 := (List.cons.inj e).1
      have e2 := (List.cons.inj (List.cons.inj e).2).1
      have e3 : d = d' := by omega
      subst e3
      rcases Nat.lt_or_ge a b with z | z
      · exact h d a b d1 z (by omega) e2
      · exact h d b a d1 (by omega) (by omega) e2.symm
end AD
namespace AD
theorem arrowsTo_len (ns : List Int) (n one : Nat) : (arrowsTo ns n one).length = n - (one + 1) := by
  unfold arrowsTo
  rw [List.length_map, List.length_range']
theorem arrowsTo_at {ns : List Int} {n one j : Nat} (h : j < n - (one + 1)) : (arrowsTo ns n one)[j]? = some [((one + 1 + j : Nat) : Int) - (one : Int), ns.getD (one + 1 + j) 0 - ns.getD one 0] := by
  unfold arrowsTo
  rw [List.getElem?_map, List.getElem?_range' h, Nat.one_mul]
  rfl
def tri (n : Nat) : Nat := ((List.range n).map fun one => n - (one + 1)).sum
theorem arrows_len (ns : List Int) : (arrows ns).length = tri ns.length := by
  unfold arrows tri
  rw [List.length_flatMap]
  congr 1
  exact List.map_congr_left fun one _ => arrowsTo_len ns _ one
theorem tri9 : ∀ n, n ≤ 9 → tri n < 64 := by decide +kernel
theorem tri60 : ∀ n, n ≤ 60 → tri n < 2000 := by decide +kernel
theorem flat_succ {β : Type} (f : Nat → List β) (i : Nat) : (List.range (i + 1)).flatMap f = (List.range i).flatMap f ++ f i := by
  rw [List.range_succ, List.flatMap_append, List.flatMap_singleton]
/-- a thing put in somewhere -/
theorem insert_perm {α : Type} (l : List α) (i : Nat) (x : α) : (l.take i ++ [x] ++ l.drop i).Perm (x :: l) := by
  have h : (l.take i ++ ([x] ++ l.drop i)).Perm ([x] ++ (l.take i ++ l.drop i)) := by
    rw [← List.append_assoc, ← List.append_assoc]
    exact List.Perm.append_right _ List.perm_append_comm
  rw [List.append_assoc]
  rw [List.take_append_drop] at h
  exact h
theorem range_snoc_perm {l : List Nat} {n i : Nat} (h : l.Perm (List.range n)) : (l.take i ++ [n] ++ l.drop i).Perm (List.range (n + 1)) := by
  refine (insert_perm l i n).trans ?_
  rw [List.range_succ]
  exact (List.Perm.cons n h).trans (List.perm_append_comm (l₁ := [n]))
end AD
namespace AD
/-! ### a plan's dots are apart -/
theorem rowsI_getD {p g c : Nat} {b : Int} (h : c < p - 1) : (rowsI p g b).getD c 0 = ((rowA p g b c : Nat) : Int) - 1 := by
  rw [List.getD_eq_getElem?_getD, rowsI_at h]
  rfl
theorem Root.welch {p g : Nat} (R : Root p g) (b : Int) : Apt (rowsI p g b) := by
  intro d i j d1 hij hjd e
  have lo := R.good.lo
  rw [rowsI_len] at hjd
  have hi : i + d < p - 1 := by omega
  unfold up at e
  rw [rowsI_getD hi, rowsI_getD (show i < p - 1 by omega), rowsI_getD hjd, rowsI_getD (show j < p - 1 by omega)] at e
  have h0 := Int.emod_nonneg (((rowA p g b (i + d) : Nat) : Int) - 1 - (((rowA p g b i : Nat) : Int) - 1)) (show (p : Int) ≠ 0 by omega)
  have key : ∀ c, c + d < p - 1 → (((rowA p g b (c + d) : Nat) : Int) - 1 - (((rowA p g b c : Nat) : Int) - 1)) = (((rowA p g b (i + d) : Nat) : Int) - 1 - (((rowA p g b i : Nat) : Int) - 1)) →
      rowA p g b c = tgt p g d ((((rowA p g b (i + d) : Nat) : Int) - 1 - (((rowA p g b i : Nat) : Int) - 1)) % (p : Int)).toNat := by
    intro c hc ec
    refine (R.hit (c := c) (b := b) d1 (by omega)).mp ?_
    rw [Nat.mod_eq_of_lt hc, Int.toNat_of_nonneg h0, ec, Int.sub_emod, Int.emod_emod_of_dvd _ (Int.dvd_refl _), Int.sub_self, Int.zero_emod]
  have e1 := key i hi rfl
  have e2 := key j hjd e.symm
  have := R.row_inj (b := b) (show i < p - 1 by omega) (show j < p - 1 by omega) (e1.trans e2.symm)
  omega
end AD
namespace AD
/-! ### crossed: two roots whose powers come to 1 together -/
/-- the rows by two roots -/
structure Cross (p g h : Nat) (l : List Nat) : Prop where
  len : l.length = p - 2
  at1 : ∀ c r, l[c]? = some r → r < p - 2 ∧ (g ^ (c + 1) + h ^ (r + 1)) % p = 1
theorem mod_dvd {p x : Nat} (hp : 3 ≤ p) (h : x % p = 1) : (p : Int) ∣ (x : Int) - 1 := by
  refine ⟨((x / p : Nat) : Int), ?_⟩
  have e := Nat.div_add_mod x p
  rw [h] at e
  have e2 : (x : Int) = (p : Int) * ((x / p : Nat) : Int) + 1 := by exact_mod_cast e.symm
  omega
theorem dvd_mod {p x y : Nat} (h : (p : Int) ∣ (x : Int) - (y : Int)) : x % p = y % p := modsub.mp (Int.emod_eq_zero_of_dvd h)
theorem Good.dvd_mul {p : Nat} (G : Good p) {x y : Int} (h : (p : Int) ∣ x * y) : (p : Int) ∣ x ∨ (p : Int) ∣ y := by
  have h1 : p ∣ x.natAbs * y.natAbs := by
    have := Int.natAbs_dvd_natAbs.mpr h
    rw [Int.natAbs_mul] at this
    exact this
  by_cases a : x.natAbs % p = 0
  · exact .inl (Int.natAbs_dvd_natAbs.mp (Nat.dvd_of_mod_eq_zero a))
  · by_cases b : y.natAbs % p = 0
    · exact .inr (Int.natAbs_dvd_natAbs.mp (Nat.dvd_of_mod_eq_zero b))
    · exact absurd (Nat.mod_eq_zero_of_dvd h1) (G.mul_ne a b)
theorem Root.inj1 {p g i j : Nat} (R : Root p g) (hi : i < p - 2) (hj : j < p - 2) (e : (p : Int) ∣ ((g ^ (i + 1) : Nat) : Int) - ((g ^ (j + 1) : Nat) : Int)) : i = j := by
  have h := R.inj (i := i + 1) (j := j + 1) (by omega) (by omega) (dvd_mod e)
  omega
theorem sum_dvd {p x y : Nat} (hp : 3 ≤ p) (h : (x + y) % p = 1) : (p : Int) ∣ (x : Int) + (y : Int) - 1 := by
  have h2 := mod_dvd hp h
  rw [Int.natCast_add] at h2
  exact h2
theorem Cross.lt {p g h : Nat} {l : List Nat} (X : Cross p g h l) {c : Nat} {r : Nat} (e : l[c]? = some r) : c < p - 2 := by
  have h1 := (List.getElem?_eq_some_iff.mp e).1
  have := X.len
  omega
/-- there is but one -/
theorem Cross.unique {p g h : Nat} {l m : List Nat} (R : Root p h) (X : Cross p g h l) (Y : Cross p g h m) : l = m := by
  have lo := R.good.lo
  refine List.ext_getElem (by rw [X.len, Y.len]) fun c c1 c2 => ?_
  obtain ⟨a1, a2⟩ := X.at1 c _ (List.getElem?_eq_getElem c1)
  obtain ⟨b1, b2⟩ := Y.at1 c _ (List.getElem?_eq_getElem c2)
  obtain ⟨x, hx⟩ := sum_dvd lo a2
  obtain ⟨y, hy⟩ := sum_dvd lo b2
  exact R.inj1 a1 b1 ⟨x - y, by grind⟩
/-- with the roots exchanged rows and columns are -/
theorem Cross.back {p g h : Nat} {l m : List Nat} (Rg : Root p g) (X : Cross p g h l) (Y : Cross p h g m) {c r : Nat} (e : l[c]? = some r) : m[r]? = some c := by
  have lo := Rg.good.lo
  obtain ⟨a1, a2⟩ := X.at1 c _ e
  have hc := X.lt e
  have hr : r < m.length := by rw [Y.len]; exact a1
  rw [List.getElem?_eq_getElem hr]
  obtain ⟨b1, b2⟩ := Y.at1 r _ (List.getElem?_eq_getElem hr)
  obtain ⟨x, hx⟩ := sum_dvd lo a2
  obtain ⟨y, hy⟩ := sum_dvd lo b2
  exact congrArg some (Rg.inj1 b1 hc ⟨y - x, by grind⟩)
theorem Cross.inj {p g h : Nat} {l : List Nat} (R : Root p g) (X : Cross p g h l) {c d r : Nat} (e : l[c]? = some r) (f : l[d]? = some r) : c = d := by
  have lo := R.good.lo
  obtain ⟨x, hx⟩ := sum_dvd lo (X.at1 c _ e).2
  obtain ⟨y, hy⟩ := sum_dvd lo (X.at1 d _ f).2
  exact R.inj1 (X.lt e) (X.lt f) ⟨x - y, by grind⟩
theorem nodup_of_at {l : List Nat} (h : ∀ i j r : Nat, l[i]? = some r → l[j]? = some r → i = j) : l.Nodup := by
  refine List.pairwise_iff_getElem.mpr fun i j hi hj hij e => ?_
  have h1 := List.getElem?_eq_getElem hj
  have h2 := List.getElem?_eq_getElem hi
  rw [e] at h2
  have := h i j _ h2 h1
  omega
theorem Cross.perm {p g h : Nat} {l : List Nat} (R : Root p g) (X : Cross p g h l) : l.Perm (List.range (p - 2)) := by
  refine perm_range _ _ (nodup_of_at fun i j r => X.inj R) (fun x hx => ?_) X.len
  obtain ⟨c, hc⟩ := List.mem_iff_getElem?.mp hx
  exact (X.at1 c x hc).1
theorem getD_zof {l : List Nat} {c : Nat} (h : c < l.length) : (l.map fun n : Nat => (n : Int)).getD c 0 = (l[c] : Int) := by
  rw [List.getD_eq_getElem?_getD, List.getElem?_map, List.getElem?_eq_getElem h]
  rfl
theorem alg1 {p gd ga hA hB hU hF f x1 x2 : Int} (y1 : gd * ga + hA - 1 = p * x1) (y2 : ga + hB - 1 = p * x2) (e : hB * hU = hA * hF) (hf : hF - 1 = p * f) : p ∣ (gd - hU) * ga - 1 + hU :=
  ⟨x1 + hA * f - hU * x2, by grind⟩
theorem alg2 {p a b c d : Int} (h1 : p ∣ a * b - 1 + d) (h2 : p ∣ a * c - 1 + d) : p ∣ a * (b - c) := by
  obtain ⟨x, hx⟩ := h1
  obtain ⟨y, hy⟩ := h2
  exact ⟨x - y, by grind⟩
theorem alg3 {p g u a : Int} (h1 : p ∣ (g - u) * a - 1 + u) (h2 : p ∣ g - u) : p ∣ g - 1 := by
  obtain ⟨x, hx⟩ := h1
  obtain ⟨y, hy⟩ := h2
  exact ⟨x - y * a + y, by grind⟩
/-- crossed dots are apart -/
theorem Cross.apt {p g h : Nat} {l : List Nat} (Rg : Root p g) (Rh : Root p h) (X : Cross p g h l) : Apt (l.map fun n : Nat => (n : Int)) := by
  intro d i j d1 hij hjd e
  have lo := Rg.good.lo
  rw [List.length_map] at hjd
  unfold up at e
  rw [getD_zof (show i + d < l.length by omega), getD_zof (show i < l.length by omega), getD_zof (show j + d < l.length by omega), getD_zof (show j < l.length by omega)] at e
  have hl := X.len
  obtain ⟨a1, a2⟩ := X.at1 (i + d) _ (List.getElem?_eq_getElem (show i + d < l.length by omega))
  obtain ⟨b1, b2⟩ := X.at1 i _ (List.getElem?_eq_getElem (show i < l.length by omega))
  obtain ⟨c1, c2⟩ := X.at1 (j + d) _ (List.getElem?_eq_getElem (show j + d < l.length by omega))
  obtain ⟨e1, e2⟩ := X.at1 j _ (List.getElem?_eq_getElem (show j < l.length by omega))
  generalize l[i + d]'(by omega) = A at *
  generalize l[i]'(by omega) = B at *
  generalize l[j + d]'(by omega) = C at *
  generalize l[j]'(by omega) = E at *
  -- how far up, around
  obtain ⟨u, hu1, hu2⟩ : ∃ u : Nat, B + 1 + u = A + 1 + (p - 1) ∧ E + 1 + u = C + 1 + (p - 1) := ⟨A + (p - 1) - B, by omega, by omega⟩
  obtain ⟨f, hf⟩ := mod_dvd lo (Rh.good.ferm Rh.ne)
  have p1 : h ^ (B + 1) * h ^ u = h ^ (A + 1) * h ^ (p - 1) := by rw [← Nat.pow_add, ← Nat.pow_add, hu1]
  have p2 : h ^ (E + 1) * h ^ u = h ^ (C + 1) * h ^ (p - 1) := by rw [← Nat.pow_add, ← Nat.pow_add, hu2]
  have q1 : g ^ (i + d + 1) = g ^ d * g ^ (i + 1) := by rw [← Nat.pow_add]; congr 1; omega
  have q2 : g ^ (j + d + 1) = g ^ d * g ^ (j + 1) := by rw [← Nat.pow_add]; congr 1; omega
  rw [q1] at a2
  rw [q2] at c2
  obtain ⟨x1, y1⟩ := sum_dvd lo a2
  obtain ⟨x2, y2⟩ := sum_dvd lo b2
  obtain ⟨x3, y3⟩ := sum_dvd lo c2
  obtain ⟨x4, y4⟩ := sum_dvd lo e2
  rw [Int.natCast_mul] at y1 y3
  have p1' : ((h ^ (B + 1) : Nat) : Int) * ((h ^ u : Nat) : Int) = ((h ^ (A + 1) : Nat) : Int) * ((h ^ (p - 1) : Nat) : Int) := by exact_mod_cast p1
  have p2' : ((h ^ (E + 1) : Nat) : Int) * ((h ^ u : Nat) : Int) = ((h ^ (C + 1) : Nat) : Int) * ((h ^ (p - 1) : Nat) : Int) := by exact_mod_cast p2
  generalize hGa : ((g ^ (i + 1) : Nat) : Int) = ga at *
  generalize hGc : ((g ^ (j + 1) : Nat) : Int) = gc at *
  generalize hG : ((g ^ d : Nat) : Int) = gd at *
  generalize ((h ^ u : Nat) : Int) = hU at *
  generalize ((h ^ (B + 1) : Nat) : Int) = hB at *
  generalize ((h ^ (A + 1) : Nat) : Int) = hA at *
  generalize ((h ^ (C + 1) : Nat) : Int) = hC at *
  generalize ((h ^ (E + 1) : Nat) : Int) = hE at *
  generalize ((h ^ (p - 1) : Nat) : Int) = hF at *
  have k1 := alg1 y1 y2 p1' hf
  have k2 := alg1 y3 y4 p2' hf
  rcases Rg.good.dvd_mul (alg2 k1 k2) with k4 | k4
  · have k5 : (p : Int) ∣ gd - ((1 : Nat) : Int) := alg3 k1 k4
    rw [← hG] at k5
    have k6 := dvd_mod k5
    rw [Nat.mod_eq_of_lt (show 1 < p by omega)] at k6
    exact (plen_spec p g (by omega)).2.2.1 d d1 (by rw [Rg.len]; omega) k6
  · rw [← hGa, ← hGc] at k4
    have := Rg.inj1 (show i < p - 2 by omega) (show j < p - 2 by omega) k4
    omega
theorem Root.cross_z {p g c : Nat} (Rg : Root p g) (hc : 1 ≤ c) (hc2 : c < p - 1) : 0 ≤ (1 - ((g ^ c % p : Nat) : Int)) % (p : Int) - 1 ∧ (1 - ((g ^ c % p : Nat) : Int)) % (p : Int) - 1 < (p : Int) - 1 := by
  have lo := Rg.good.lo
  have x1 := Rg.good.pow_pos Rg.ne c
  have x2 := Nat.mod_lt (g ^ c) (show p > 0 by omega)
  have x3 : g ^ c % p ≠ 1 := (plen_spec p g (by omega)).2.2.1 c hc (by rw [Rg.len]; omega)
  rw [← Int.add_emod_right, Int.emod_eq_of_lt (by omega) (by omega)]
  omega
/-- the column that found_column tells -/
theorem Root.cross_at {p g h c r : Nat} (Rg : Root p g) (Rh : Root p h) (hc : 1 ≤ c) (hc2 : c < p - 1) (hr : r < p - 1) (e : ((rowA p h 1 r : Nat) : Int) = (1 - ((g ^ c % p : Nat) : Int)) % (p : Int)) : r < p - 2 ∧ (g ^ c + h ^ (r + 1)) % p = 1 := by
  have lo := Rg.good.lo
  have b1 : be p 1 = 1 := by
    have := be_cast lo 1
    rw [Int.emod_eq_of_lt (by decide) (show (1 : Int) < (p : Int) - 1 by omega)] at this
    omega
  unfold rowA at e
  rw [b1, Nat.add_comm 1 r] at e
  have x1 := Rg.good.pow_pos Rg.ne c
  have x2 := Nat.mod_lt (g ^ c) (show p > 0 by omega)
  have x3 : g ^ c % p ≠ 1 := (plen_spec p g (by omega)).2.2.1 c hc (by rw [Rg.len]; omega)
  have x4 : (1 - ((g ^ c % p : Nat) : Int)) % (p : Int) = (p : Int) + 1 - ((g ^ c % p : Nat) : Int) := by
    rw [← Int.add_emod_right, Int.emod_eq_of_lt (by omega) (by omega)]
    omega
  rw [x4] at e
  have x5 : h ^ (r + 1) % p + g ^ c % p = p + 1 := by omega
  constructor
  · rcases Nat.lt_or_ge r (p - 2) with z | z
    · exact z
    · have z2 : r + 1 = p - 1 := by omega
      rw [z2, Rh.good.ferm Rh.ne] at x5
      omega
  · rw [Nat.add_mod, Nat.add_comm, x5, Nat.add_mod_left, Nat.mod_eq_of_lt (by omega)]
end AD
namespace AD
/-! ### dots turned: where each comes -/
/-- where a dot comes -/
def pl (n w c r : Nat) : Nat × Nat :=
  let a := if 4 ≤ w then r else c
  let b := if 4 ≤ w then c else r
  (if w % 2 = 1 then n - 1 - a else a, if w / 2 % 2 = 1 then n - 1 - b else b)
/-- the way back -/
def bk (w : Nat) : Nat := [0, 1, 2, 3, 4, 6, 5, 7].getD w 0
/-- m: the dots l, turned -/
structure Turn (n w : Nat) (l m : List Nat) : Prop where
  len : m.length = n
  to : ∀ c r, l[c]? = some r → m[(pl n w c r).1]? = some (pl n w c r).2
/-- rows of a board, each once -/
structure Brd (n : Nat) (l : List Nat) : Prop where
  len : l.length = n
  pm : l.Perm (List.range n)
section
variable {n w : Nat} {l m : List Nat}
theorem Brd.lt (B : Brd n l) {c r : Nat} (h : l[c]? = some r) : c < n ∧ r < n := by
  have h1 := (List.getElem?_eq_some_iff.mp h).1
  have h2 := List.mem_range.mp (B.pm.mem_iff.mp (List.mem_of_getElem? h))
  have := B.len
  omega
theorem Brd.nodup (B : Brd n l) : l.Nodup := B.pm.nodup_iff.mpr List.nodup_range
theorem Brd.inj (B : Brd n l) {c d r : Nat} (h1 : l[c]? = some r) (h2 : l[d]? = some r) : c = d := by
  obtain ⟨a1, a2⟩ := List.getElem?_eq_some_iff.mp h1
  obtain ⟨b1, b2⟩ := List.getElem?_eq_some_iff.mp h2
  exact (List.getElem_inj B.nodup).mp (a2.trans b2.symm)
theorem Brd.onto (B : Brd n l) {r : Nat} (h : r < n) : ∃ c : Nat, l[c]? = some r :=
  List.mem_iff_getElem?.mp ((B.pm.mem_iff (a := r)).mpr (List.mem_range.mpr h))
theorem Brd.col (B : Brd n l) {c : Nat} (h : c < n) : ∃ r, l[c]? = some r :=
  ⟨_, List.getElem?_eq_getElem (by rw [B.len]; exact h)⟩
theorem pl_lt {c r : Nat} (h1 : c < n) (h2 : r < n) : (pl n w c r).1 < n ∧ (pl n w c r).2 < n := by
  unfold pl
  constructor <;> dsimp only <;> repeat' split
  all_goals omega
theorem pl_back {c r : Nat} (hw : w < 8) (h1 : c < n) (h2 : r < n) : pl n (bk w) (pl n w c r).1 (pl n w c r).2 = (c, r) := by
  have hw' : w = 0 ∨ w = 1 ∨ w = 2 ∨ w = 3 ∨ w = 4 ∨ w = 5 ∨ w = 6 ∨ w = 7 := by omega
  rcases hw' with rfl | rfl | rfl | rfl | rfl | rfl | rfl | rfl <;> simp [pl, bk] <;> omega
theorem bk_lt (hw : w < 8) : bk w < 8 := by
  have hw' : w = 0 ∨ w = 1 ∨ w = 2 ∨ w = 3 ∨ w = 4 ∨ w = 5 ∨ w = 6 ∨ w = 7 := by omega
  rcases hw' with rfl | rfl | rfl | rfl | rfl | rfl | rfl | rfl <;> decide
/-- each column of the turned board is some dot's -/
theorem Brd.hit (B : Brd n l) {c' : Nat} (h : c' < n) : ∃ c r : Nat, l[c]? = some r ∧ (pl n w c r).1 = c' := by
  unfold pl
  by_cases h4 : 4 ≤ w
  · simp only [if_pos h4]
    by_cases h2 : w % 2 = 1
    · simp only [if_pos h2]
      obtain ⟨c, hc⟩ := B.onto (r := n - 1 - c') (by omega)
      exact ⟨c, _, hc, by omega⟩
    · simp only [if_neg h2]
      obtain ⟨c, hc⟩ := B.onto h
      exact ⟨c, _, hc, rfl⟩
  · simp only [if_neg h4]
    by_cases h2 : w % 2 = 1
    · simp only [if_pos h2]
      obtain ⟨r, hr⟩ := B.col (c := n - 1 - c') (by omega)
      exact ⟨_, r, hr, by omega⟩
    · simp only [if_neg h2]
      obtain ⟨r, hr⟩ := B.col h
      exact ⟨_, r, hr, rfl⟩
/-- each dot of the turned board is some dot's -/
theorem Turn.from (T : Turn n w l m) (B : Brd n l) {c' r' : Nat} (h : m[c']? = some r') : ∃ c r, l[c]? = some r ∧ pl n w c r = (c', r') := by
  have hc : c' < n := by
    have := (List.getElem?_eq_some_iff.mp h).1
    have := T.len
    omega
  obtain ⟨c, r, h1, h2⟩ := B.hit (w := w) hc
  have h3 := T.to c r h1
  rw [h2, h] at h3
  exact ⟨c, r, h1, Prod.ext h2 (Option.some.inj h3).symm⟩
theorem Turn.unique {m' : List Nat} (T : Turn n w l m) (U : Turn n w l m') (B : Brd n l) : m = m' := by
  refine List.ext_getElem? fun c' => ?_
  rcases Nat.lt_or_ge c' n with z | z
  · obtain ⟨c, r, h1, h2⟩ := B.hit (w := w) z
    rw [← h2, T.to c r h1, U.to c r h1]
  · rw [List.getElem?_eq_none (by rw [T.len]; exact z), List.getElem?_eq_none (by rw [U.len]; exact z)]
theorem pl_inj {c r d s : Nat} (hw : w < 8) (h1 : c < n) (h2 : r < n) (h3 : d < n) (h4 : s < n) (e : pl n w c r = pl n w d s) : c = d ∧ r = s := by
  have a := pl_back hw h1 h2
  rw [e, pl_back hw h3 h4] at a
  exact ⟨(congrArg Prod.fst a).symm, (congrArg Prod.snd a).symm⟩
theorem Turn.brd (T : Turn n w l m) (B : Brd n l) (hw : w < 8) : Brd n m := by
  refine ⟨T.len, perm_range _ _ (nodup_of_at fun i j r h1 h2 => ?_) (fun x hx => ?_) T.len⟩
  · obtain ⟨c, s, a1, a2⟩ := T.from B h1
    obtain ⟨d, t, b1, b2⟩ := T.from B h2
    have e := (congrArg Prod.snd a2).trans (congrArg Prod.snd b2).symm
    obtain ⟨c1, s1⟩ := B.lt a1
    obtain ⟨d1, t1⟩ := B.lt b1
    have k : c = d ∧ s = t := by
      unfold pl at e
      dsimp only at e
      by_cases h4 : 4 ≤ w
      · simp only [if_pos h4] at e
        have z : c = d := by
          split at e <;> omega
        subst z
        exact ⟨rfl, Option.some.inj (a1.symm.trans b1)⟩
      · simp only [if_neg h4] at e
        have z : s = t := by
          split at e <;> omega
        subst z
        exact ⟨B.inj a1 b1, rfl⟩
    rw [k.1, k.2, b2] at a2
    exact (congrArg Prod.fst a2).symm
  · obtain ⟨c', h⟩ := List.mem_iff_getElem?.mp hx
    obtain ⟨c, r, a1, a2⟩ := T.from B h
    obtain ⟨c1, r1⟩ := B.lt a1
    have := (pl_lt (w := w) c1 r1).2
    rw [a2] at this
    exact this
/-- turned back -/
theorem Turn.back (T : Turn n w l m) (B : Brd n l) (hw : w < 8) : Turn n (bk w) m l := by
  refine ⟨B.len, fun c' r' h => ?_⟩
  obtain ⟨c, r, a1, a2⟩ := T.from B h
  obtain ⟨c1, r1⟩ := B.lt a1
  have e := pl_back hw c1 r1
  rw [a2] at e
  rw [show pl n (bk w) c' r' = (c, r) from e]
  exact a1
/-! ### alike arrows, from any dot to any -/
def AptP (l : List Nat) : Prop := ∀ c1 r1 c2 r2 c3 r3 c4 r4 : Nat, l[c1]? = some r1 → l[c2]? = some r2 → l[c3]? = some r3 → l[c4]? = some r4 → (c2 : Int) - c1 = (c4 : Int) - c3 → (r2 : Int) - r1 = (r4 : Int) - r3 → c1 ≠ c2 → c1 = c3
theorem up_at {i d a b : Nat} (h1 : l[i]? = some a) (h2 : l[i + d]? = some b) : up (l.map fun k : Nat => (k : Int)) i d = (b : Int) - a := by
  unfold up
  rw [List.getD_eq_getElem?_getD, List.getD_eq_getElem?_getD, List.getElem?_map, List.getElem?_map, h1, h2]
  rfl
theorem aptP_iff : Apt (l.map fun k : Nat => (k : Int)) ↔ AptP l := by
  constructor
  · intro A
    have key : ∀ c1 r1 c2 r2 c3 r3 c4 r4 : Nat, l[c1]? = some r1 → l[c2]? = some r2 → l[c3]? = some r3 → l[c4]? = some r4 → (c2 : Int) - c1 = (c4 : Int) - c3 → (r2 : Int) - r1 = (r4 : Int) - r3 → c1 < c2 → c1 < c3 → False := by
      intro c1 r1 c2 r2 c3 r3 c4 r4 h1 h2 h3 h4 e1 e2 z1 z2
      have h4' : c4 = c3 + (c2 - c1) := by omega
      have h2' : c2 = c1 + (c2 - c1) := by omega
      have l4 := (List.getElem?_eq_some_iff.mp h4).1
      refine A (c2 - c1) c1 c3 (by omega) z2 (by rw [List.length_map]; omega) ?_
      rw [up_at h1 (by rw [← h2']; exact h2), up_at h3 (by rw [← h4']; exact h4), e2]
    intro c1 r1 c2 r2 c3 r3 c4 r4 h1 h2 h3 h4 e1 e2 ne
    rcases Nat.lt_trichotomy c1 c3 with z | z | z
    · rcases Nat.lt_or_ge c1 c2 with y | y
      · exact (key c1 r1 c2 r2 c3 r3 c4 r4 h1 h2 h3 h4 e1 e2 y z).elim
      · exact (key c2 r2 c1 r1 c4 r4 c3 r3 h2 h1 h4 h3 (by omega) (by omega) (by omega) (by omega)).elim
    · exact z
    · rcases Nat.lt_or_ge c1 c2 with y | y
      · exact (key c3 r3 c4 r4 c1 r1 c2 r2 h3 h4 h1 h2 (by omega) (by omega) (by omega) (by omega)).elim
      · exact (key c4 r4 c3 r3 c2 r2 c1 r1 h4 h3 h2 h1 (by omega) (by omega) (by omega) (by omega)).elim
  · intro A d i j h1 h2 h3 e
    rw [List.length_map] at h3
    have g : ∀ c, c < l.length → l[c]? = some (l.getD c 0) := fun c h => by
      rw [List.getD_eq_getElem?_getD, List.getElem?_eq_getElem h]
      rfl
    have a1 := g i (by omega)
    have a2 := g (i + d) (by omega)
    have a3 := g j (by omega)
    have a4 := g (j + d) (by omega)
    rw [up_at a1 a2, up_at a3 a4] at e
    have := A i _ (i + d) _ j _ (j + d) _ a1 a2 a3 a4 (by omega) e (by omega)
    omega
theorem Turn.apt1 (T : Turn n w l m) (B : Brd n l) (A : AptP l) : AptP m := by
  intro c1 r1 c2 r2 c3 r3 c4 r4 h1 h2 h3 h4 e1 e2 ne
  obtain ⟨a1, b1, p1, q1⟩ := T.from B h1
  obtain ⟨a2, b2, p2, q2⟩ := T.from B h2
  obtain ⟨a3, b3, p3, q3⟩ := T.from B h3
  obtain ⟨a4, b4, p4, q4⟩ := T.from B h4
  obtain ⟨x1, y1⟩ := B.lt p1
  obtain ⟨x2, y2⟩ := B.lt p2
  obtain ⟨x3, y3⟩ := B.lt p3
  obtain ⟨x4, y4⟩ := B.lt p4
  have k : a1 = a3 := by
    refine A a1 b1 a2 b2 a3 b3 a4 b4 p1 p2 p3 p4 ?_ ?_ ?_
    · unfold pl at q1 q2 q3 q4
      simp only [Prod.mk.injEq] at q1 q2 q3 q4
      by_cases h4 : 4 ≤ w
      · simp only [if_pos h4] at q1 q2 q3 q4
        split at q1 <;> split at q1 <;> simp_all <;> omega
      · simp only [if_neg h4] at q1 q2 q3 q4
        split at q1 <;> split at q1 <;> simp_all <;> omega
    · unfold pl at q1 q2 q3 q4
      simp only [Prod.mk.injEq] at q1 q2 q3 q4
      by_cases h4 : 4 ≤ w
      · simp only [if_pos h4] at q1 q2 q3 q4
        split at q1 <;> split at q1 <;> simp_all <;> omega
      · simp only [if_neg h4] at q1 q2 q3 q4
        split at q1 <;> split at q1 <;> simp_all <;> omega
    · intro z
      subst z
      have z2 := Option.some.inj (p1.symm.trans p2)
      rw [z2, q2] at q1
      exact ne (congrArg Prod.fst q1).symm
  subst k
  have z2 := Option.some.inj (p1.symm.trans p3)
  rw [z2, q3] at q1
  exact (congrArg Prod.fst q1).symm
/-- as many alike arrows or none as ahead -/
theorem Turn.apt (T : Turn n w l m) (B : Brd n l) (hw : w < 8) : Apt (m.map fun k : Nat => (k : Int)) ↔ Apt (l.map fun k : Nat => (k : Int)) := by
  rw [aptP_iff, aptP_iff]
  exact ⟨fun h => (T.back B hw).apt1 (T.brd B hw) h, fun h => T.apt1 B h⟩
/-! ### how they are turned -/
def inv (n : Nat) (l : List Nat) : List Nat := (List.range n).map fun r => l.idxOf r
def t0 (n w : Nat) (l : List Nat) : List Nat := if 4 ≤ w then inv n l else l
def t1 (n w : Nat) (l : List Nat) : List Nat := if w % 2 = 1 then (t0 n w l).reverse else t0 n w l
def t2 (n w : Nat) (l : List Nat) : List Nat := if w / 2 % 2 = 1 then (t1 n w l).map (fun r => n - 1 - r) else t1 n w l
theorem Brd.idx (B : Brd n l) {c r : Nat} (h : l[c]? = some r) : l.idxOf r = c := by
  obtain ⟨a1, a2⟩ := List.getElem?_eq_some_iff.mp h
  rw [← a2]
  exact List.Nodup.idxOf_getElem B.nodup c a1
theorem t0_len (B : Brd n l) : (t0 n w l).length = n := by
  unfold t0 inv
  split
  · rw [List.length_map, List.length_range]
  · exact B.len
theorem t1_len (B : Brd n l) : (t1 n w l).length = n := by
  unfold t1
  split
  · rw [List.length_reverse, t0_len B]
  · exact t0_len B
theorem t2_turn (B : Brd n l) : Turn n w l (t2 n w l) := by
  refine ⟨?_, fun c r h => ?_⟩
  · unfold t2
    split
    · rw [List.length_map, t1_len B]
    · exact t1_len B
  · obtain ⟨c1, r1⟩ := B.lt h
    have e0 : (t0 n w l)[if 4 ≤ w then r else c]? = some (if 4 ≤ w then c else r) := by
      unfold t0 inv
      by_cases h4 : 4 ≤ w
      · rw [if_pos h4, if_pos h4, if_pos h4, List.getElem?_map, List.getElem?_range r1]
        show some (l.idxOf r) = some c
        rw [B.idx h]
      · rw [if_neg h4, if_neg h4, if_neg h4]
        exact h
    have lta : (if 4 ≤ w then r else c) < n := by split <;> omega
    unfold t2 t1 pl
    dsimp only
    generalize (if 4 ≤ w then r else c) = a at *
    generalize (if 4 ≤ w then c else r) = b at *
    have e1 : (if w % 2 = 1 then (t0 n w l).reverse else t0 n w l)[if w % 2 = 1 then n - 1 - a else a]? = some b := by
      by_cases h2 : w % 2 = 1
      · rw [if_pos h2, if_pos h2, List.getElem?_reverse (by rw [t0_len B]; omega), t0_len B, show n - 1 - (n - 1 - a) = a by omega]
        exact e0
      · rw [if_neg h2, if_neg h2]
        exact e0
    by_cases h3 : w / 2 % 2 = 1
    · rw [if_pos h3, if_pos h3, List.getElem?_map, e1]
      rfl
    · rw [if_neg h3, if_neg h3]
      exact e1
/-! ### the first column and row taken off -/
theorem Brd.cut {t : List Nat} (B : Brd n (0 :: t)) : Brd (n - 1) (t.map fun r => r - 1) := by
  have hl := B.len
  rw [List.length_cons] at hl
  obtain ⟨k1, k2⟩ := List.nodup_cons.mp B.nodup
  have hne : ∀ x ∈ t, x ≠ 0 := fun x hx e => k1 (e ▸ hx)
  refine ⟨by rw [List.length_map]; omega, perm_range _ _ (map_nodup k2 fun x hx y hy e => ?_) (fun x hx => ?_) (by rw [List.length_map]; omega)⟩
  · have := hne x hx
    have := hne y hy
    omega
  · obtain ⟨y, hy, e⟩ := List.mem_map.mp hx
    have h1 := hne y hy
    have h2 := List.mem_range.mp (B.pm.mem_iff.mp (List.mem_cons_of_mem 0 hy))
    omega
theorem Brd.cut_apt {t : List Nat} (B : Brd n (0 :: t)) (A : Apt ((0 :: t).map fun k : Nat => (k : Int))) : Apt ((t.map fun r => r - 1).map fun k : Nat => (k : Int)) := by
  rw [aptP_iff] at A ⊢
  obtain ⟨k1, k2⟩ := List.nodup_cons.mp B.nodup
  have hne : ∀ x ∈ t, x ≠ 0 := fun x hx e => k1 (e ▸ hx)
  have g : ∀ c r, (t.map fun r => r - 1)[c]? = some r → (0 :: t)[c + 1]? = some (r + 1) := fun c r h => by
    rw [List.getElem?_map] at h
    cases e : t[c]? with
    | none => rw [e] at h; cases h
    | some x =>
      rw [e] at h
      have h1 : x - 1 = r := Option.some.inj h
      have h2 := hne x (List.mem_of_getElem? e)
      rw [List.getElem?_cons_succ, e]
      congr 1
      omega
  intro c1 r1 c2 r2 c3 r3 c4 r4 h1 h2 h3 h4 e1 e2 ne
  have := A _ _ _ _ _ _ _ _ (g _ _ h1) (g _ _ h2) (g _ _ h3) (g _ _ h4) (by omega) (by omega) (by omega)
  omega
end
end AD
namespace Lw
open PySem PySem.Spec PyProof.Rows L2 AD
section
variable {P : Program} {w : World} {K : PySem.W.Frag} {mg : Str → Option Value} {base : Heap}
variable {fa : Nat → Addr} {fd : Nat → FuncData} {tk : Nat → Tok}
/-! ### classes of the text -/
/-- a class whose making is object's own -/
structure MkP (K : PySem.W.Frag) (C : Addr) : Prop where
  mks : PySem.W.makesIn K C = true
  ini : PySem.W.findIn K (.ref C) "__init__" = some (some (.builtin "object.__init__"))
  kp : PySem.W.keepIn K (.ref C) = true
/-- what isinstance asks of an instance of it -/
structure InsF (K : PySem.W.Frag) (C : Addr) : Prop where
  cl : Cls K C
  f1 : PySem.W.findIn K (.ref C) "__class__" = some (some (.builtin "object.__class__"))
  f2 : PySem.W.specialIn K (.builtin "object.__class__") "__get__" = some (some (.builtin "getset_descriptor.__get__"))
  f3 : PySem.W.takesIn K (.builtin "object.__class__") = some true
  f4 : PySem.W.mroIn K C (.type "object") = some true
theorem InsF.ty {C a dx : Addr} {H : Hp} {fs : List (Str × V)} (i : InsF K C) (h : H a = some (.ins C dx fs)) : TyX K H (.ref a) (.ref C) := .base (.ins h i.cl i.f1 i.f2 i.f3 i.f4)
theorem kit_own {t : Value} {C : Addr} {b : Bool} (h1 : PySem.W.isClsIn K C = true) (h2 : PySem.W.typeIn K (.ref C) = some (.type "type")) (h3 : PySem.W.subIn K t (.ref C) = some b) (h4 : PySem.W.subIn K (.ref C) (.ref C) = some true) : PySem.W.kitOne K t (.ref C) = some b := by
  unfold PySem.W.kitOne
  by_cases e : (t == Value.ref C) = true
  · rw [if_pos e]
    have e' : t = .ref C := eq_of_beq e
    rw [e', h4] at h3
    exact h3
  · rw [if_neg e]
    have h5 : ((PySem.W.clsIn K C).isSome && PySem.W.typeIn K (.ref C) == some (.type "type")) = true := by
      rw [h2, show (PySem.W.clsIn K C).isSome = true from h1]
      rfl
    show (if ((PySem.W.clsIn K C).isSome && PySem.W.typeIn K (.ref C) == some (.type "type")) = true then PySem.W.subIn K t (.ref C) else none) = some b
    rw [if_pos h5]
    exact h3
/-- C(), C without an own __init__: a new instance -/
def tMakeP (C : Addr) : TE := fun _ H Q => ∀ x dx, H x = none → H dx = none → dx ≠ x → Q (.ref x) (upd (upd H dx (.own x)) x (.ins C dx []))
theorem pe_makeP {X : Cx} {C : Addr} {x : Str} {p pos : Pos} (M : MkP X.K C) (hg : Gl X x) (hm : X.mg x = some (.ref C)) (hdb : (x == ("__debug__" : Str)) = false := by decide) :
    PE X (.Call (.Name x p) [] [] pos) (tMakeP C) := by
  refine ⟨fun pins s σ H Q I h => wpAny_Call_Name_kw (ld_glob I hg hm ?_ hdb)⟩
  refine PySem.W.callWith_K0 I.kIn M.kp (wpAny_call (make_map0 I.kIn M.mks M.ini (fun v => PySem.W.Looks.of_pure (PySem.W.oi_bind v)) ?_))
  have J := Inv.made (C := C) I
  have Y := PySem.W.makes_of (M := model X.prog X.w) I.kIn M.mks
  obtain ⟨_, _, _, e, _⟩ := J.hok _ _ upd_same
  have t1 : PySem.W.Looks (model X.prog X.w) ((s.heap.push PySem.W.emptyDict).push (PySem.W.instObj C s.heap.objs.size)) (typeOf (.ref (s.heap.objs.size + 1))) (.ref C) := (PySem.W.Looks.ld e).andThen .now
  have t2 : PySem.W.Looks (model X.prog X.w) ((s.heap.push PySem.W.emptyDict).push (PySem.W.instObj C s.heap.objs.size)) (isInstance (.ref (s.heap.objs.size + 1)) (.type "object")) true :=
    t1.andThen (Y.top.keeps fun b o q => Heap.get?_push_of_some _ (Heap.get?_push_of_some _ q))
  refine codeAny_call_builtin PySem.W.oi_plain PySem.W.entry_oi (PySem.W.check_slot (rest := []) (kw := []) PySem.W.oi_kind PySem.W.oi_split t2 (PySem.W.oi_args _) ?_)
  rw [PySem.W.oi_run]
  exact wpAny_pure ⟨rfl, ⟨.ref (s.heap.objs.size + 1), _, J, rfl, h _ _ (I.hok.fresh (Nat.le_succ _)) (I.hok.fresh (Nat.le_refl _)) (Nat.ne_of_lt (Nat.lt_succ_self _))⟩⟩
end
end Lw
namespace Lw
open PySem PySem.Spec PyProof.Rows L2 AD
def topS (i : Nat) : Stmt := PySem.Challenge.pw_arrowdots_k06_whole_turned.main.body.getD i (.Pass ⟨0, 0, 0, 0⟩)
abbrev s_first_same : Stmt := topS 3
abbrev s_Same_init : Stmt := inClass (topS 5) 0
abbrev s_is_whole : Stmt := topS 16
abbrev s_is_prime : Stmt := topS 17
abbrev s_asked_prime : Stmt := topS 18
abbrev s_power : Stmt := topS 19
abbrev s_root_of : Stmt := topS 20
abbrev s_asked_root : Stmt := topS 21
abbrev s_asked_dots : Stmt := topS 24
abbrev s_judged : Stmt := topS 25
abbrev s_turned : Stmt := topS 26
abbrev s_without_corner : Stmt := topS 27
abbrev s_asked_plan : Stmt := topS 29
abbrev s_dots_of : Stmt := topS 30
abbrev s__law_number : Stmt := topS 32
abbrev s__law_prime : Stmt := topS 33
abbrev s__law_powers : Stmt := topS 34
abbrev s__law_root : Stmt := topS 35
abbrev s__law_plan : Stmt := topS 36
abbrev s__law_arrows : Stmt := topS 38
abbrev s__law_apart : Stmt := topS 39
abbrev s__law_order : Stmt := topS 41
abbrev s__law_place : Stmt := topS 42
abbrev s__law_right : Stmt := topS 43
abbrev s_law : Stmt := topS 44
theorem sc_first_same : FnScope ["dots", "across", "seen", "column", "up"] ["dots"] (defScope s_first_same) :=
  ⟨rfl, rfl, rfl, by decide +kernel, rfl, by decide +kernel, by decide +kernel⟩
theorem sc_Same_init : FnScope ["self", "first", "second", "across"] ["self", "first", "second", "across"] (defScope s_Same_init) :=
  ⟨rfl, rfl, rfl, by decide +kernel, rfl, by decide +kernel, by decide +kernel⟩
theorem sc_is_whole : FnScope ["thing"] ["thing"] (defScope s_is_whole) :=
  ⟨rfl, rfl, rfl, by decide +kernel, rfl, by decide +kernel, by decide +kernel⟩
theorem sc_is_prime : FnScope ["number", "at"] ["number"] (defScope s_is_prime) :=
  ⟨rfl, rfl, rfl, by decide +kernel, rfl, by decide +kernel, by decide +kernel⟩
theorem sc_asked_prime : FnScope ["prime", "most"] ["prime", "most"] (defScope s_asked_prime) :=
  ⟨rfl, rfl, rfl, by decide +kernel, rfl, by decide +kernel, by decide +kernel⟩
theorem sc_power : FnScope ["number", "times", "prime", "found"] ["number", "times", "prime"] (defScope s_power) :=
  ⟨rfl, rfl, rfl, by decide +kernel, rfl, by decide +kernel, by decide +kernel⟩
theorem sc_root_of : FnScope ["prime", "number", "many", "left", "at"] ["prime", "number"] (defScope s_root_of) :=
  ⟨rfl, rfl, rfl, by decide +kernel, rfl, by decide +kernel, by decide +kernel⟩
theorem sc_asked_root : FnScope ["prime", "root"] ["prime", "root"] (defScope s_asked_root) :=
  ⟨rfl, rfl, rfl, by decide +kernel, rfl, by decide +kernel, by decide +kernel⟩
theorem sc_asked_dots : FnScope ["dots", "row"] ["dots"] (defScope s_asked_dots) :=
  ⟨rfl, rfl, rfl, by decide +kernel, rfl, by decide +kernel, by decide +kernel⟩
theorem sc_judged : FnScope ["dots", "found"] ["dots"] (defScope s_judged) :=
  ⟨rfl, rfl, rfl, by decide +kernel, rfl, by decide +kernel, by decide +kernel⟩
theorem sc_turned : FnScope ["dots", "way", "found", "row"] ["dots", "way"] (defScope s_turned) :=
  ⟨rfl, rfl, rfl, by decide +kernel, rfl, by decide +kernel, by decide +kernel⟩
theorem sc_without_corner : FnScope ["dots", "row"] ["dots"] (defScope s_without_corner) :=
  ⟨rfl, rfl, rfl, by decide +kernel, rfl, by decide +kernel, by decide +kernel⟩
theorem sc_asked_plan : FnScope ["prime", "root", "begin", "most"] ["prime", "root", "begin", "most"] (defScope s_asked_plan) :=
  ⟨rfl, rfl, rfl, by decide +kernel, rfl, by decide +kernel, by decide +kernel⟩
theorem sc_dots_of : FnScope ["prime", "root", "begin", "column"] ["prime", "root", "begin"] (defScope s_dots_of) :=
  ⟨rfl, rfl, rfl, by decide +kernel, rfl, by decide +kernel, by decide +kernel⟩
theorem sc__law_number : FnScope ["_law_cell", "_law_at", "_law_whole", "_law_mixed", "_law_more"] ["_law_cell", "_law_at", "_law_whole"] (defScope s__law_number) :=
  ⟨rfl, rfl, rfl, by decide +kernel, rfl, by decide +kernel, by decide +kernel⟩
theorem sc__law_prime : FnScope ["_law_number_here", "_law_small"] ["_law_number_here"] (defScope s__law_prime) :=
  ⟨rfl, rfl, rfl, by decide +kernel, rfl, by decide +kernel, by decide +kernel⟩
theorem sc__law_powers : FnScope ["_law_prime_here", "_law_number_here", "_law_found"] ["_law_prime_here", "_law_number_here"] (defScope s__law_powers) :=
  ⟨rfl, rfl, rfl, by decide +kernel, rfl, by decide +kernel, by decide +kernel⟩
theorem sc__law_root : FnScope ["_law_prime_here", "_law_number_here", "_law_at"] ["_law_prime_here", "_law_number_here"] (defScope s__law_root) :=
  ⟨rfl, rfl, rfl, by decide +kernel, rfl, by decide +kernel, by decide +kernel⟩
theorem sc__law_plan : FnScope ["_law_script", "_law_by", "_law_cells", "_law_number_here", "_law_prime_here", "_law_begin"] ["_law_script", "_law_by"] (defScope s__law_plan) :=
  ⟨rfl, rfl, rfl, by decide +kernel, rfl, by decide +kernel, by decide +kernel⟩
theorem sc__law_arrows : FnScope ["_law_dots", "_law_found", "_law_one", "_law_other"] ["_law_dots"] (defScope s__law_arrows) :=
  ⟨rfl, rfl, rfl, by decide +kernel, rfl, by decide +kernel, by decide +kernel⟩
theorem sc__law_apart : FnScope ["_law_dots", "_law_arrows_here"] ["_law_dots"] (defScope s__law_apart) :=
  ⟨rfl, rfl, rfl, by decide +kernel, rfl, by decide +kernel, by decide +kernel⟩
theorem sc__law_order : FnScope ["_law_script", "_law_by", "_law_many", "_law_cells", "_law_found", "_law_one", "_law_number_here"] ["_law_script", "_law_by", "_law_many"] (defScope s__law_order) :=
  ⟨rfl, rfl, rfl, by decide +kernel, rfl, by decide +kernel, by decide +kernel⟩
theorem sc__law_place : FnScope ["_law_many", "_law_way", "_law_column", "_law_row"] ["_law_many", "_law_way", "_law_column", "_law_row"] (defScope s__law_place) :=
  ⟨rfl, rfl, rfl, by decide +kernel, rfl, by decide +kernel, by decide +kernel⟩
theorem sc__law_right : FnScope ["_law_dots", "_law_many", "_law_handed", "_law_way", "_law_found", "_law_column", "_law_row", "_law_there", "_law_back"] ["_law_dots"] (defScope s__law_right) :=
  ⟨rfl, rfl, rfl, by decide +kernel, rfl, by decide +kernel, by decide +kernel⟩
theorem sc_law : FnScope ["_law_script", "_law_whole", "_law_by", "_law_prime_here", "_law_root_here", "_law_begin", "_law_dots", "_law_some", "_law_corner", "_law_rows_here", "_law_handed", "_law_found", "_law_row"] ["_law_script"] (defScope s_law) :=
  ⟨rfl, rfl, rfl, by decide +kernel, rfl, by decide +kernel, by decide +kernel⟩
/-- what stands behind the top: the names left to Python, the constants, the defs -/
structure Txt (K : PySem.W.Frag) (mg : Str → Option Value) (fa : Nat → Addr) (fd : Nat → FuncData) (tk : Nat → Tok) : Prop where
  m_abs : mg "abs" = none
  m_all : mg "all" = none
  m_bool : mg "bool" = none
  m_enumerate : mg "enumerate" = none
  m_int : mg "int" = none
  m_isinstance : mg "isinstance" = none
  m_len : mg "len" = none
  m_list : mg "list" = none
  m_range : mg "range" = none
  m_set : mg "set" = none
  m_sorted : mg "sorted" = none
  m_sum : mg "sum" = none
  g_SMALL : mg "SMALL" = some (.int 61 (tk 0))
  g_LONGEST : mg "LONGEST" = some (.int 60 (tk 1))
  g_Answer : mg "Answer" = some (.ref (fa 25))
  mk_Answer : MkP K (fa 25)
  in_Answer : InsF K (fa 25)
  ki_Answer_Answer : PySem.W.kitOne K (.ref (fa 25)) (.ref (fa 25)) = some true
  ki_Answer_Apart : PySem.W.kitOne K (.ref (fa 25)) (.ref (fa 26)) = some false
  ki_Answer_Same : PySem.W.kitOne K (.ref (fa 25)) (.ref (fa 27)) = some false
  g_Apart : mg "Apart" = some (.ref (fa 26))
  mk_Apart : MkP K (fa 26)
  in_Apart : InsF K (fa 26)
  ki_Apart_Answer : PySem.W.kitOne K (.ref (fa 26)) (.ref (fa 25)) = some true
  ki_Apart_Apart : PySem.W.kitOne K (.ref (fa 26)) (.ref (fa 26)) = some true
  ki_Apart_Same : PySem.W.kitOne K (.ref (fa 26)) (.ref (fa 27)) = some false
  g_Same : mg "Same" = some (.ref (fa 27))
  mk_Same : Mk K (fa 27) (fa 1)
  in_Same : InsF K (fa 27)
  na_Same_first : NoAttr K (fa 27) "first"
  na_Same_second : NoAttr K (fa 27) "second"
  na_Same_across : NoAttr K (fa 27) "across"
  ki_Same_Answer : PySem.W.kitOne K (.ref (fa 27)) (.ref (fa 25)) = some true
  ki_Same_Apart : PySem.W.kitOne K (.ref (fa 27)) (.ref (fa 26)) = some false
  ki_Same_Same : PySem.W.kitOne K (.ref (fa 27)) (.ref (fa 27)) = some true
  g_first_same : mg "first_same" = some (.ref (fa 0))
  F_first_same : Fun K "first_same" "first_same" s_first_same (fa 0) (fd 0)
  b_first_same : Binds K (fd 0) ["dots"] []
  F_Same_init : Fun K "__init__" "Same.__init__" s_Same_init (fa 1) (fd 1)
  b_Same_init : Binds K (fd 1) ["self", "first", "second", "across"] []
  g_is_whole : mg "is_whole" = some (.ref (fa 2))
  F_is_whole : Fun K "is_whole" "is_whole" s_is_whole (fa 2) (fd 2)
  b_is_whole : Binds K (fd 2) ["thing"] []
  g_is_prime : mg "is_prime" = some (.ref (fa 3))
  F_is_prime : Fun K "is_prime" "is_prime" s_is_prime (fa 3) (fd 3)
  b_is_prime : Binds K (fd 3) ["number"] []
  g_asked_prime : mg "asked_prime" = some (.ref (fa 4))
  F_asked_prime : Fun K "asked_prime" "asked_prime" s_asked_prime (fa 4) (fd 4)
  b_asked_prime : Binds K (fd 4) ["prime", "most"] []
  g_power : mg "power" = some (.ref (fa 5))
  F_power : Fun K "power" "power" s_power (fa 5) (fd 5)
  b_power : Binds K (fd 5) ["number", "times", "prime"] []
  g_root_of : mg "root_of" = some (.ref (fa 6))
  F_root_of : Fun K "root_of" "root_of" s_root_of (fa 6) (fd 6)
  b_root_of : Binds K (fd 6) ["prime", "number"] []
  g_asked_root : mg "asked_root" = some (.ref (fa 7))
  F_asked_root : Fun K "asked_root" "asked_root" s_asked_root (fa 7) (fd 7)
  b_asked_root : Binds K (fd 7) ["prime", "root"] []
  g_asked_dots : mg "asked_dots" = some (.ref (fa 8))
  F_asked_dots : Fun K "asked_dots" "asked_dots" s_asked_dots (fa 8) (fd 8)
  b_asked_dots : Binds K (fd 8) ["dots"] []
  g_judged : mg "judged" = some (.ref (fa 9))
  F_judged : Fun K "judged" "judged" s_judged (fa 9) (fd 9)
  b_judged : Binds K (fd 9) ["dots"] []
  g_turned : mg "turned" = some (.ref (fa 10))
  F_turned : Fun K "turned" "turned" s_turned (fa 10) (fd 10)
  b_turned : Binds K (fd 10) ["dots", "way"] []
  g_without_corner : mg "without_corner" = some (.ref (fa 11))
  F_without_corner : Fun K "without_corner" "without_corner" s_without_corner (fa 11) (fd 11)
  b_without_corner : Binds K (fd 11) ["dots"] []
  g_asked_plan : mg "asked_plan" = some (.ref (fa 12))
  F_asked_plan : Fun K "asked_plan" "asked_plan" s_asked_plan (fa 12) (fd 12)
  b_asked_plan : Binds K (fd 12) ["prime", "root", "begin", "most"] []
  g_dots_of : mg "dots_of" = some (.ref (fa 13))
  F_dots_of : Fun K "dots_of" "dots_of" s_dots_of (fa 13) (fd 13)
  b_dots_of : Binds K (fd 13) ["prime", "root", "begin"] []
  g__law_number : mg "_law_number" = some (.ref (fa 14))
  F__law_number : Fun K "_law_number" "_law_number" s__law_number (fa 14) (fd 14)
  b__law_number : Binds K (fd 14) ["_law_cell", "_law_at", "_law_whole"] []
  g__law_prime : mg "_law_prime" = some (.ref (fa 15))
  F__law_prime : Fun K "_law_prime" "_law_prime" s__law_prime (fa 15) (fd 15)
  b__law_prime : Binds K (fd 15) ["_law_number_here"] []
  g__law_powers : mg "_law_powers" = some (.ref (fa 16))
  F__law_powers : Fun K "_law_powers" "_law_powers" s__law_powers (fa 16) (fd 16)
  b__law_powers : Binds K (fd 16) ["_law_prime_here", "_law_number_here"] []
  g__law_root : mg "_law_root" = some (.ref (fa 17))
  F__law_root : Fun K "_law_root" "_law_root" s__law_root (fa 17) (fd 17)
  b__law_root : Binds K (fd 17) ["_law_prime_here", "_law_number_here"] []
  g__law_plan : mg "_law_plan" = some (.ref (fa 18))
  F__law_plan : Fun K "_law_plan" "_law_plan" s__law_plan (fa 18) (fd 18)
  b__law_plan : Binds K (fd 18) ["_law_script", "_law_by"] []
  g__law_arrows : mg "_law_arrows" = some (.ref (fa 19))
  F__law_arrows : Fun K "_law_arrows" "_law_arrows" s__law_arrows (fa 19) (fd 19)
  b__law_arrows : Binds K (fd 19) ["_law_dots"] []
  g__law_apart : mg "_law_apart" = some (.ref (fa 20))
  F__law_apart : Fun K "_law_apart" "_law_apart" s__law_apart (fa 20) (fd 20)
  b__law_apart : Binds K (fd 20) ["_law_dots"] []
  g__law_order : mg "_law_order" = some (.ref (fa 21))
  F__law_order : Fun K "_law_order" "_law_order" s__law_order (fa 21) (fd 21)
  b__law_order : Binds K (fd 21) ["_law_script", "_law_by", "_law_many"] []
  g__law_place : mg "_law_place" = some (.ref (fa 22))
  F__law_place : Fun K "_law_place" "_law_place" s__law_place (fa 22) (fd 22)
  b__law_place : Binds K (fd 22) ["_law_many", "_law_way", "_law_column", "_law_row"] []
  g__law_right : mg "_law_right" = some (.ref (fa 23))
  F__law_right : Fun K "_law_right" "_law_right" s__law_right (fa 23) (fd 23)
  b__law_right : Binds K (fd 23) ["_law_dots"] []
  g_law : mg "law" = some (.ref (fa 24))
  F_law : Fun K "law" "law" s_law (fa 24) (fd 24)
  b_law : Binds K (fd 24) ["_law_script"] []
section
variable {P : Program} {w : World} {K : PySem.W.Frag} {mg : Str → Option Value} {base : Heap}
variable {fa : Nat → Addr} {fd : Nat → FuncData} {tk : Nat → Tok}
end
end Lw
namespace Lw
open PySem PySem.Spec PyProof.Rows L2 AD
section
variable {P : Program} {w : World} {K : PySem.W.Frag} {mg : Str → Option Value} {base : Heap}
variable {fa : Nat → Addr} {fd : Nat → FuncData} {tk : Nat → Tok}
/-! ### small things -/
theorem op_mulB {X : Cx} : OpR X (binaryOp .Mult) (rI IntMulOk fun i j => .int (i * j)) :=
  opI fun _ _ _ _ _ _ _ hc q => mul_int q hc
theorem mulL {i j : Int} (h1 : -(2 ^ 64) < i) (h2 : i < 2 ^ 64) : IntMulOk i j := .of_left (intBits_le_64 h1 h2)
theorem mulR {i j : Int} (h1 : -(2 ^ 64) < j) (h2 : j < 2 ^ 64) : IntMulOk i j := .of_right (intBits_le_64 h1 h2)
theorem same_upd {H : Hp} {p : Addr} {o : HO} (h : H p = none) : Same H (upd H p o) := fun b x e => by
  rw [upd_ne (ne_of_none e h)]
  exact e
theorem dec_vint {i j : Int} : (decide (V.int i = V.int j) = true) = (i = j) := by
  apply propext
  rw [decide_eq_true_iff]
  exact ⟨fun e => V.int.inj e, fun e => by rw [e]⟩
theorem dF {c : Prop} [Decidable c] (e : ¬ (decide c = true)) : ¬ c := fun h => e (decide_eq_true h)
theorem dT {c : Prop} [Decidable c] (e : decide c = true) : c := of_decide_eq_true e
theorem z2 : (0 : Int) < 2 := by decide
theorem dp_ints {K : PySem.W.Frag} {H : Hp} : ∀ ns : List Int, DpAll K H (ns.map V.int) (ns.map PyData.int)
  | [] => .nil
  | n :: r => .cons (.int n) (dp_ints r)
theorem dp_list {K : PySem.W.Frag} {H : Hp} {a : Addr} {ns : List Int} (h : SqL K H a (ns.map V.int)) : Dp K H (.ref a) (.list (ns.map PyData.int)) := .lst h (dp_ints ns)
theorem eqv_ints : ∀ ns ms : List Int, PyData.eqvAll (ns.map PyData.int) (ms.map PyData.int) = decide (ns = ms)
  | [], [] => rfl
  | [], _ :: _ => rfl
  | _ :: _, [] => rfl
  | n :: r, m :: q => by
    rw [List.map_cons, List.map_cons, PyData.eqvAll, eqv_ints r q, PyData.eqv]
    by_cases e : n = m
    · subst e
      by_cases z : r = q
      · subst z; simp
      · simp [z]
    · simp [e]
theorem canLay_ints : ∀ ns : List Int, PyData.canLayAll0 (ns.map PyData.int) = true
  | [] => rfl
  | n :: r => by
    rw [List.map_cons, PyData.canLayAll0, canLay_ints r]
    rfl
theorem depth_ints : ∀ ns : List Int, PyData.depthAll (ns.map PyData.int) ≤ 1
  | [] => by decide
  | n :: r => by
    have h := depth_ints r
    rw [List.map_cons, PyData.depthAll]
    exact Nat.max_le.mpr ⟨by simp [PyData.depth], h⟩
theorem shaped_list (ns : List Int) : SeqAt.shaped (.list (ns.map PyData.int)) = true := by
  have h := depth_ints ns
  unfold SeqAt.shaped
  rw [PyData.canLay0, canLay_ints, PyData.depth, decide_eq_true (show PyData.depthAll (ns.map PyData.int) + 1 ≤ 64 by omega)]
  rfl
/-- two lists of ints -/
def rEqL (K : PySem.W.Frag) : R2 := fun x y H Q => ∃ (a b : Addr) (ns ms : List Int), x = .ref a ∧ y = .ref b ∧ SqL K H a (ns.map V.int) ∧ SqL K H b (ms.map V.int) ∧ Q (.bl (decide (ns = ms))) H
def rNeL (K : PySem.W.Frag) : R2 := fun x y H Q => ∃ (a b : Addr) (ns ms : List Int), x = .ref a ∧ y = .ref b ∧ SqL K H a (ns.map V.int) ∧ SqL K H b (ms.map V.int) ∧ Q (.bl (!decide (ns = ms))) H
theorem op_eqL {X : Cx} (hu : X.A.units + 64 < cLine) : OpR X (compareOp .Eq) (rEqL X.K) := by
  intro pins s σ H x y u v Q I rx ry h
  obtain ⟨a, b, ns, ms, rfl, rfl, ha, hb, q⟩ := h
  exact op_eqD hu pins s σ H _ _ u v Q I rx ry ⟨_, _, dp_list ha, dp_list hb, shaped_list ns, shaped_list ms, by rw [PyData.eqv, eqv_ints]; exact q⟩
theorem op_neL {X : Cx} (hu : X.A.units + 64 < cLine) : OpR X (compareOp .NotEq) (rNeL X.K) := by
  intro pins s σ H x y u v Q I rx ry h
  obtain ⟨a, b, ns, ms, rfl, rfl, ha, hb, q⟩ := h
  exact op_neD hu pins s σ H _ _ u v Q I rx ry ⟨_, _, dp_list ha, dp_list hb, shaped_list ns, shaped_list ms, by rw [PyData.eqv, eqv_ints]; exact q⟩
theorem cutV_mem {xs : List V} {lo hi : Option Int} {v : V} (h : v ∈ cutV xs lo hi) : v ∈ xs := by
  unfold cutV at h
  exact List.mem_of_mem_drop (List.mem_of_mem_take h)
/-- the first k of a list of ints -/
theorem cutV_to (ns : List Int) (k : Nat) : cutV (ns.map V.int) none (some (k : Int)) = (ns.take k).map V.int := by
  unfold cutV
  rw [HT.sIx_none, HT.sIx_nat, List.drop_zero, Nat.sub_zero, List.length_map, ← List.map_take, ← List.take_eq_take_min]
/-- two readings of one expression: either will do -/
theorem pe_alt {X : Cx} {e : Expr} {t u : TE} (h : PE X e t) (k : PE X e u) : PE X e (fun σ H Q => t σ H Q ∨ u σ H Q) :=
  ⟨fun pins s σ H Q I hw => hw.elim (h.run pins s σ H Q I) (k.run pins s σ H Q I)⟩
/-- len of a list or a tuple -/
def rLenS0 (K : PySem.W.Frag) : List V → Hp → VK → Prop := fun xs H Q => ∃ p ys, xs = [.ref p] ∧ (SqL K H p ys ∨ SqT K H p ys) ∧ Q (.int (ys.length : Nat)) H
end
end Lw
namespace Lw
open PySem PySem.Spec PyProof.Rows L2 AD
section
variable {P : Program} {w : World} {K : PySem.W.Frag} {mg : Str → Option Value} {base : Heap}
variable {fa : Nat → Addr} {fd : Nat → FuncData} {tk : Nat → Tok}
/-! ### how many different tuples -/
/-- len(set(xs)), xs a list of tuples of ints: as many as xs has, just where no two are alike -/
def tLenSetT (K : PySem.W.Frag) (m : Nat) (ta : TE) : TE := fun σ H Q => ta σ H fun x H1 => ∃ (l : Addr) (ks : List (Addr × List Int)), x = V.ref l ∧ SqL K H1 l (ks.map fun p => V.ref p.1) ∧ (∀ p ∈ ks, SqT K H1 p.1 (p.2.map V.int)) ∧ ks.length < m ∧
  ∀ n : Nat, (n = ks.length ↔ (ks.map (·.2)).Nodup) → Q (.int n) H1
theorem pe_lenSetT {X : Cx} {a : Expr} {ta : TE} {p p2 q pos : Pos} (hc : X.calm = true) (hg : Gl X "len") (hm : X.mg "len" = none) (hg2 : Gl X "set") (hm2 : X.mg "set" = none) (hu : X.A.units + 64 < cLine) (ha : PE X a ta)
    (na : starEach [a] X.env = (false, eval a X.env) :: starEach [] X.env := by rfl) : PE X (.Call (.Name "len" p) [.Call (.Name "set" p2) [a] [] q] [] pos) (tLenSetT X.K 2000 ta) := by
  refine ⟨fun pins s σ H Q I h => Call_ (ld_blt I hg hm PySem.boot_len (callWith_builtin1 (args_cons ?_ rfl) rfl rfl))⟩
  refine Call_ (ld_blt I hg2 hm2 boot_set (callWith_type1 (args_cons (thn (ha.run pins s σ H _ I h) fun v s1 h1 => args_nil ?_) na) na rfl))
  obtain ⟨x, H1, J, rx, l, ks, rfl, hl, hk, hf, q1⟩ := h1
  cases rx
  obtain ⟨its, rv, pl, hz⟩ := J.list hl
  refine Bs.set_of_tups (P := X.prog) (w := X.w) ks (J.ok.hd hc) pl.isList (by simpa using refs_of_vals rv) (fun p hp => J.isT (hk p hp)) (Nat.le_of_lt hf) (by omega) fun h' tk L es ep t R g k => args_nil ?_
  obtain ⟨o, ho, hex, hd⟩ := R.obj
  have hsz : es.size = L.length := Bs.rows_len R.ent
  have hfit : t.fits es.size = true := R.ok (s := { s1 with heap := h', toks := tk })
  have J2 : Inv X pins σ H1 { s1 with heap := h', toks := tk } := J.kept fun b o e => k b o e
  have hB := once_len (A := ks.map (·.2)) (B := L.map (·.2)) R.once (fun x hx => ?_) (fun x hx => ?_)
  · have few := hB.1
    rw [List.length_map, List.length_map] at few
    refine call_len_set ho hex hd hfit (by omega) ⟨.int es.size, H1, J2.tok _, ⟨_, rfl⟩, q1 es.size ?_⟩
    rw [hsz]
    rw [List.length_map, List.length_map] at hB
    exact hB.2
  · obtain ⟨p, hp, e⟩ := List.mem_map.mp hx
    exact List.mem_map.mpr ⟨p, List.mem_of_mem_take (g.sub p hp), e⟩
  · obtain ⟨p, hp, e⟩ := List.mem_map.mp hx
    rw [← e]
    exact g.all p (by rw [List.take_length]; exact hp)
end
end Lw
namespace Lw
open PySem PySem.Spec PyProof.Rows L2 AD
section
variable {P : Program} {w : World} {K : PySem.W.Frag} {mg : Str → Option Value} {base : Heap}
variable {fa : Nat → Addr} {fd : Nat → FuncData} {tk : Nat → Tok}
/-! ### power -/
def spPower : Sp := fun vs H Q _ => ∃ a t p : Nat, vs = [.int a, .int t, .int p] ∧ 2 ≤ p ∧ p ≤ 2000 ∧ a ≤ 2000 ∧ Q (.int ((a ^ t % p : Nat) : Int)) H
theorem pow_step0 {p f a t : Nat} (h : t % 2 = 0) : f * (a * a % p) ^ (t / 2) % p = f * a ^ t % p := by
  have e : t = 2 * (t / 2) := by omega
  conv => rhs; rw [e, Nat.pow_mul, Nat.pow_two, Nat.mul_mod, Nat.pow_mod, ← Nat.mul_mod]
theorem pow_step1 {p f a t : Nat} (h : t % 2 = 1) : (f * a % p) * (a * a % p) ^ (t / 2) % p = f * a ^ t % p := by
  have e : t = 2 * (t / 2) + 1 := by omega
  conv => rhs; rw [e, Nat.pow_succ, Nat.pow_mul, Nat.pow_two, Nat.mul_comm _ a, ← Nat.mul_assoc, Nat.mul_mod, Nat.pow_mod, ← Nat.mul_mod]
  rw [Nat.mul_mod, Nat.pow_mod, Nat.mod_mod, Nat.mod_mod, ← Nat.mul_mod]
theorem ok_power (T : Txt K mg fa fd tk) : FnOk P w K mg base CX0 1 (fa 5) (fd 5) ["number", "times", "prime"] spPower := by
  refine T.F_power.ok sc_power (fun vs H Q E h => ?_) (fun cdv A outer s H vs Q E hr h => ?_)
  · obtain ⟨a, t, p, rfl, _⟩ := h
    rfl
  · obtain ⟨a, t, p, rfl, hp, hp2, ha, q⟩ := h
    refine ⟨_, (pss_cons (ps_set (i := 3) sc_power.nd rfl (.inl rfl) pe_int)
      (pss_cons (ps_while PassesOwn.never (pt_cmpR op_gt (pv 1) pe_int (nomark _)) (pss_cons (ps_if (pt_cmpR op_eq (pe_op op_mod (pv 1) pe_int) pe_int (nomark _)) (pss_one (ps_set (i := 3) sc_power.nd rfl (.inl rfl) (pe_op op_mod (pe_op op_mulB (pv 3) (pv 0)) (pv 2)))) pss_nil)
      (pss_cons (ps_set (i := 0) sc_power.nd rfl (.inl rfl) (pe_op op_mod (pe_op op_mulB (pv 0) (pv 0)) (pv 2)))
      (pss_one (ps_set (i := 1) sc_power.nd rfl (.inl rfl) (pe_op op_fdiv (pv 1) pe_int))))))
      (pss_one (ps_ret (pv 3))))), ?_⟩
    refine ⟨fun m σ H' => H' = H ∧ ∃ a' f' : Nat, σ = [some (.int a'), some (.int m), some (.int p), some (.int f')] ∧ a' ≤ 2000 ∧ f' < p ∧ f' * a' ^ m % p = a ^ t % p, ⟨t, rfl, a, 1, rfl, ha, by omega, by rw [Nat.one_mul]⟩, fun m σ H' hW => ?_⟩
    obtain ⟨rfl, a', f', rfl, ha', hf', he⟩ := hW
    refine ⟨_, rfl, _, _, rfl, rfl, _, rfl, ite2 (fun e => ?_) (fun e => ?_)⟩
    · have hm : 0 < m := by have := of_decide_eq_true e; omega
      refine ⟨fun σ' H'' => ∃ m', m' < m ∧ H'' = H' ∧ ∃ a' f' : Nat, σ' = [some (.int a'), some (.int m'), some (.int p), some (.int f')] ∧ a' ≤ 2000 ∧ f' < p ∧ f' * a' ^ m' % p = a ^ t % p, fun _ _ h => h, ?_⟩
      refine ⟨_, rfl, _, _, rfl, rfl, z2, rfl, _, rfl, ite2 (fun e2 => ?_) (fun e2 => ?_)⟩
      · rw [dec_vint] at e2
        refine ⟨_, rfl, _, rfl, _, _, rfl, rfl, mulL (by omega) (by omega), _, rfl, _, _, rfl, rfl, by omega, ?_⟩
        refine ⟨_, rfl, _, rfl, _, _, rfl, rfl, mulL (by omega) (by omega), _, rfl, _, _, rfl, rfl, by omega, ?_⟩
        refine ⟨_, rfl, _, _, rfl, rfl, ⟨by decide, by decide⟩, ?_⟩
        refine ⟨m / 2, by omega, rfl, a' * a' % p, f' * a' % p, ?_, ?_, ?_, ?_⟩
        · simp
        · have := Nat.mod_lt (a' * a') (show p > 0 by omega); omega
        · exact Nat.mod_lt _ (by omega)
        · rw [pow_step1 (by omega), he]
      · rw [dec_vint] at e2
        refine ⟨_, rfl, _, rfl, _, _, rfl, rfl, mulL (by omega) (by omega), _, rfl, _, _, rfl, rfl, by omega, ?_⟩
        refine ⟨_, rfl, _, _, rfl, rfl, ⟨by decide, by decide⟩, ?_⟩
        refine ⟨m / 2, by omega, rfl, a' * a' % p, f', ?_, ?_, hf', ?_⟩
        · simp
        · have := Nat.mod_lt (a' * a') (show p > 0 by omega); omega
        · rw [pow_step0 (by omega), he]
    · have hm : m = 0 := by
        have := dF e
        omega
      subst hm
      rw [Nat.pow_zero, Nat.mul_one, Nat.mod_eq_of_lt hf'] at he
      subst he
      exact ⟨_, rfl, q⟩
end
end Lw
namespace Lw
open PySem PySem.Spec PyProof.Rows L2 AD
section
variable {P : Program} {w : World} {K : PySem.W.Frag} {mg : Str → Option Value} {base : Heap}
variable {fa : Nat → Addr} {fd : Nat → FuncData} {tk : Nat → Tok}
/-! ### is_whole, is_prime, asked_prime -/
/-- an int, or a thing of these kinds that is none -/
def spWhole (K : PySem.W.Frag) : Sp := fun vs H Q _ => ∃ v, vs = [v] ∧ ((∃ i, v = .int i ∧ Q (.bl true) H) ∨ ∃ n, TyX K H v (.type n) ∧ n ∈ ["NoneType", "str", "list", "tuple", "dict", "bool"] ∧ Q (.bl false) H)
theorem ok_is_whole (T : Txt K mg fa fd tk) : FnOk P w K mg base CX0 1 (fa 2) (fd 2) ["thing"] (spWhole K) := by
  refine T.F_is_whole.ok sc_is_whole (fun vs H Q E h => ?_) (fun cdv A outer s H vs Q E hr h => ?_)
  · obtain ⟨v, rfl, _⟩ := h
    rfl
  · obtain ⟨v, rfl, h⟩ := h
    refine ⟨_, (pss_one (ps_ret (pe_and (pe_callB call_isi (by rfl) T.m_isinstance (by decide +kernel) (pa_cons (pv 0) (pa_cons (pe_bltn (v := .ty "int") (u := .type "int") (by rfl) T.m_int (by decide +kernel) rfl) pa_nil))) (pe_one (pe_not (pe_callB call_isi (by rfl) T.m_isinstance (by decide +kernel) (pa_cons (pv 0) (pa_cons (pe_bltn (v := .ty "bool") (u := .type "bool") (by rfl) T.m_bool (by decide +kernel) rfl) pa_nil)))))))), ?_⟩
    rcases h with ⟨i, rfl, q⟩ | ⟨n, ty, hn, q⟩
    · refine ⟨_, rfl, _, _, _, _, true, rfl, .ty _, .base (.int _), kit_ty (by decide +kernel), true, rfl, iteT ?_⟩
      exact ⟨_, rfl, _, _, _, _, false, rfl, .ty _, .base (.int _), kit_ty (by decide +kernel), false, rfl, q⟩
    · simp only [List.mem_cons, List.not_mem_nil, or_false] at hn
      rcases hn with rfl | rfl | rfl | rfl | rfl | rfl
      · exact ⟨_, rfl, _, _, _, _, false, rfl, .ty _, ty, kit_ty (by decide +kernel), false, rfl, iteF q⟩
      · exact ⟨_, rfl, _, _, _, _, false, rfl, .ty _, ty, kit_ty (by decide +kernel), false, rfl, iteF q⟩
      · exact ⟨_, rfl, _, _, _, _, false, rfl, .ty _, ty, kit_ty (by decide +kernel), false, rfl, iteF q⟩
      · exact ⟨_, rfl, _, _, _, _, false, rfl, .ty _, ty, kit_ty (by decide +kernel), false, rfl, iteF q⟩
      · exact ⟨_, rfl, _, _, _, _, false, rfl, .ty _, ty, kit_ty (by decide +kernel), false, rfl, iteF q⟩
      · refine ⟨_, rfl, _, _, _, _, true, rfl, .ty _, ty, kit_ty (by decide +kernel), true, rfl, iteT ?_⟩
        exact ⟨_, rfl, _, _, _, _, true, rfl, .ty _, ty, kit_ty (by decide +kernel), true, rfl, q⟩
def spIsPrime : Sp := fun vs H Q _ => ∃ n : Nat, vs = [.int n] ∧ 2 ≤ n ∧ n ≤ 2000 ∧ Q (.bl (primeB n)) H
theorem ok_is_prime (T : Txt K mg fa fd tk) : FnOk P w K mg base CX0 1 (fa 3) (fd 3) ["number"] spIsPrime := by
  refine T.F_is_prime.ok sc_is_prime (fun vs H Q E h => ?_) (fun cdv A outer s H vs Q E hr h => ?_)
  · obtain ⟨v, rfl, _⟩ := h
    rfl
  · obtain ⟨n, rfl, hn, hn2, q⟩ := h
    refine ⟨_, (pss_cons (ps_set (i := 1) sc_is_prime.nd rfl (.inl rfl) pe_int)
      (pss_cons (ps_while PassesOwn.never (pt_cmpR op_le (pe_op op_mulB (pv 1) (pv 1)) (pv 0) (nomark _)) (pss_cons (ps_if (pt_cmpR op_eq (pe_op op_mod (pv 0) (pv 1)) pe_int (nomark _)) (pss_one (ps_ret pe_bl)) pss_nil)
      (pss_one (ps_set (i := 1) sc_is_prime.nd rfl (.inl rfl) (pe_op op_add (pv 1) pe_int)))))
      (pss_one (ps_ret pe_bl)))), ?_⟩
    refine ⟨fun m σ H' => H' = H ∧ ∃ a : Nat, σ = [some (.int n), some (.int a)] ∧ 2 ≤ a ∧ m + a = n + 2 ∧ primeLoop n m a = primeB n, ⟨n, rfl, 2, rfl, by omega, by omega, rfl⟩, fun m σ H' hW => ?_⟩
    obtain ⟨rfl, a, rfl, ha, hm, he⟩ := hW
    have hml : IntMulOk (a : Int) a := mulL (by omega) (by omega)
    refine ⟨_, rfl, _, rfl, _, _, rfl, rfl, hml, _, rfl, _, _, rfl, rfl, _, rfl, ite2 (fun e => ?_) (fun e => ?_)⟩
    · have e1 : a * a ≤ n := by have h := dT e; exact_mod_cast h
      have e2 : a ≤ n := Nat.le_trans (Nat.le_mul_of_pos_left a (by omega)) e1
      obtain ⟨k, rfl⟩ : ∃ k, m = k + 1 := ⟨m - 1, by omega⟩
      unfold primeLoop at he
      rw [Nat.ble_eq_true_of_le e1] at he
      refine ⟨fun σ' H'' => ∃ m', m' < k + 1 ∧ H'' = H' ∧ ∃ a : Nat, σ' = [some (.int n), some (.int a)] ∧ 2 ≤ a ∧ m' + a = n + 2 ∧ primeLoop n m' a = primeB n, fun _ _ h => h, ?_⟩
      refine ⟨_, rfl, _, rfl, _, _, rfl, rfl, by omega, rfl, _, rfl, ite2 (fun e3 => ?_) (fun e3 => ?_)⟩
      · rw [dec_vint] at e3
        have e4 : n % a = 0 := by omega
        rw [e4] at he
        rw [← he] at q
        exact q
      · rw [dec_vint] at e3
        have e4 : ¬ n % a = 0 := by omega
        have e5 : Nat.beq (n % a) 0 = false := by
          cases z : Nat.beq (n % a) 0 with
          | false => rfl
          | true => exact absurd (Nat.eq_of_beq_eq_true z) e4
        rw [e5] at he
        exact ⟨_, rfl, _, _, rfl, rfl, k, by omega, rfl, a + 1, rfl, by omega, by omega, he⟩
    · have e1 : ¬ a * a ≤ n := by have h := dF e; exact_mod_cast h
      have e5 : Nat.ble (a * a) n = false := by
        cases z : Nat.ble (a * a) n with
        | false => rfl
        | true => exact absurd (Nat.le_of_ble_eq_true z) e1
      have e6 : primeB n = true := by
        cases m with
        | zero => exact he.symm
        | succ k =>
          unfold primeLoop at he
          rw [e5] at he
          exact he.symm
      rw [e6] at q
      exact q
/-- a prime that is due: nothing is raised -/
def spAskedPrime : Sp := fun vs H Q _ => ∃ p m : Nat, vs = [.int p, .int m] ∧ Good p ∧ p ≤ m ∧ Q .non H
theorem ok_asked_prime (T : Txt K mg fa fd tk) : FnOk P w K mg base CX0 2 (fa 4) (fd 4) ["prime", "most"] spAskedPrime := by
  refine T.F_asked_prime.ok sc_asked_prime (fun vs H Q E h => ?_) (fun cdv A outer s H vs Q E hr h => ?_)
  · obtain ⟨p, m, rfl, _⟩ := h
    rfl
  · obtain ⟨p, m, rfl, G, hm, q⟩ := h
    have lo := G.lo
    have hi := G.hi
    refine ⟨_, (pss_one (ps_if (PW.pt (pw_or (pt_not (pt_val (pe_call (ok_is_whole T) (hr.mono (by decide)) (by rfl) T.g_is_whole T.F_is_whole.kp T.b_is_whole .nil pass0 (pa_cons (pv 0) pa_nil)))) (pw_or (pt_not (pt_chain op_le op_le pe_int (pv 0) (pv 1))) (pw_or1 (pt_not (pt_val (pe_call (ok_is_prime T) (hr.mono (by decide)) (by rfl) T.g_is_prime T.F_is_prime.kp T.b_is_prime .nil pass0 (pa_cons (pv 0) pa_nil)))))))) (pss_one ps_never) pss_nil)), ?_⟩
    refine ⟨_, rfl, _, rfl, .inl ⟨_, rfl, _, rfl, iteF ?_⟩⟩
    refine ⟨_, rfl, _, _, rfl, rfl, _, rfl, ?_⟩
    rw [decide_eq_true (show (3 : Int) ≤ p by omega)]
    refine iteT ⟨_, rfl, _, _, rfl, rfl, _, rfl, ?_⟩
    rw [decide_eq_true (show (p : Int) ≤ m by omega)]
    refine iteF ⟨_, rfl, p, rfl, by omega, by omega, _, rfl, ?_⟩
    rw [G.pr]
    exact iteF q
end
end Lw
namespace Lw
open PySem PySem.Spec PyProof.Rows L2 AD
section
variable {P : Program} {w : World} {K : PySem.W.Frag} {mg : Str → Option Value} {base : Heap}
variable {fa : Nat → Addr} {fd : Nat → FuncData} {tk : Nat → Tok}
/-! ### root_of, is_root, least_root -/
theorem beqF {a b : Nat} (h : ¬ a = b) : Nat.beq a b = false := by
  cases z : Nat.beq a b with
  | false => rfl
  | true => exact absurd (Nat.eq_of_beq_eq_true z) h
theorem bleF {a b : Nat} (h : ¬ a ≤ b) : Nat.ble a b = false := by
  cases z : Nat.ble a b with
  | false => rfl
  | true => exact absurd (Nat.le_of_ble_eq_true z) h
/-- what is stripped off leaves a divisor -/
theorem stripN_dvd (a : Nat) : ∀ (f left : Nat), stripN a f left ∣ left
  | 0, left => Nat.dvd_refl _
  | f + 1, left => by
    unfold stripN
    cases z : Nat.beq (left % a) 0 with
    | false => exact Nat.dvd_refl _
    | true =>
      have e : left % a = 0 := Nat.eq_of_beq_eq_true z
      exact Nat.dvd_trans (stripN_dvd a f (left / a)) (Nat.div_dvd_of_dvd (Nat.dvd_of_mod_eq_zero e))
theorem stripN_end {a f left : Nat} (h : ¬ left % a = 0) : stripN a f left = left := by
  cases f with
  | zero => rfl
  | succ f => unfold stripN; rw [beqF h]
theorem stripN_step {a f left : Nat} (h : left % a = 0) : stripN a (f + 1) left = stripN a f (left / a) := by
  rw [stripN, h]
def spRootOf : Sp := fun vs H Q _ => ∃ p g : Nat, vs = [.int p, .int g] ∧ 3 ≤ p ∧ p ≤ 2000 ∧ g < p ∧ Q (.bl (rootB p g)) H
theorem ok_root_of (T : Txt K mg fa fd tk) : FnOk P w K mg base CX0 2 (fa 6) (fd 6) ["prime", "number"] spRootOf := by
  refine T.F_root_of.ok sc_root_of (fun vs H Q E h => ?_) (fun cdv A outer s H vs Q E hr h => ?_)
  · obtain ⟨p, g, rfl, _⟩ := h
    rfl
  · obtain ⟨p, g, rfl, hp, hp2, hg, q⟩ := h
    refine ⟨_, (pss_cons (ps_set (i := 2) sc_root_of.nd rfl (.inl rfl) (pe_op op_sub (pv 0) pe_int))
      (pss_cons (ps_par (i := 3) (j := 4) (by rfl) sc_root_of.nd rfl rfl (by decide) rfl rfl (pa_cons (pv 2) (pa_cons pe_int pa_nil)) (by rfl))
      (pss_cons (ps_while PassesOwn.never (pt_cmpR op_gt (pv 3) pe_int (nomark _)) (pss_cons (ps_if (pt_cmpR op_eq (pe_op op_mod (pv 3) (pv 4)) pe_int (nomark _)) (pss_cons (ps_if (pt_cmpR op_eq (pe_call (ok_power T) (hr.mono (by decide)) (by rfl) T.g_power T.F_power.kp T.b_power .nil pass0 (pa_cons (pv 1) (pa_cons (pe_op op_fdiv (pv 2) (pv 4)) (pa_cons (pv 0) pa_nil)))) pe_int (nomark _)) (pss_one (ps_ret pe_bl)) pss_nil)
      (pss_one (ps_while PassesOwn.never (pt_cmpR op_eq (pe_op op_mod (pv 3) (pv 4)) pe_int (nomark _)) (pss_one (ps_set (i := 3) sc_root_of.nd rfl (.inl rfl) (pe_op op_fdiv (pv 3) (pv 4))))))) pss_nil)
      (pss_one (ps_set (i := 4) sc_root_of.nd rfl (.inl rfl) (pe_op op_add (pv 4) pe_int)))))
      (pss_one (ps_ret pe_bl))))), ?_⟩
    refine ⟨_, rfl, _, _, rfl, rfl, ?_⟩
    refine ⟨_, rfl, _, _, rfl, ?_⟩
    let W : Nat → L2.St → Hp → Prop := fun m σ H' => H' = H ∧ ∃ l a : Nat, σ = [some (.int p), some (.int g), some (.int ((p : Int) - 1)), some (.int l), some (.int a)] ∧ 1 ≤ l ∧ l ≤ p - 1 ∧ 2 ≤ a ∧ a ≤ p ∧ (∀ d, 2 ≤ d → d < a → ¬ l % d = 0) ∧ m + a = p + 2 ∧ rootLoop p g m l a = rootB p g
    refine ⟨W, ⟨p, rfl, p - 1, 2, ?_, by omega, by omega, by omega, by omega, fun d h1 h2 => by omega, by omega, rfl⟩, fun m σ H' hW => ?_⟩
    · have e : ((p - 1 : Nat) : Int) = (p : Int) - 1 := by omega
      rw [e]
      rfl
    obtain ⟨rfl, l, a, rfl, hl, hl2, ha, hap, hd, hm, he⟩ := hW
    refine ⟨_, rfl, _, _, rfl, rfl, _, rfl, ite2 (fun e => ?_) (fun e => ?_)⟩
    · have e1 : 1 < l := by have h := dT e; omega
      have hal : a ≤ l := by
        rcases Nat.lt_or_ge l a with z | z
        · exact absurd (Nat.mod_self l) (hd l (by omega) z)
        · exact z
      obtain ⟨k, rfl⟩ : ∃ k, m = k + 1 := ⟨m - 1, by omega⟩
      unfold rootLoop at he
      rw [bleF (show ¬ l ≤ 1 by omega)] at he
      refine ⟨fun σ' H'' => ∃ m', m' < k + 1 ∧ W m' σ' H'', fun _ _ h => h, ?_⟩
      refine ⟨_, rfl, _, rfl, _, _, rfl, rfl, by omega, rfl, _, rfl, ite2 (fun e3 => ?_) (fun e3 => ?_)⟩
      · rw [dec_vint] at e3
        have e4 : l % a = 0 := by omega
        rw [e4] at he
        refine ⟨_, rfl, _, rfl, _, rfl, _, _, rfl, rfl, ⟨by omega, by omega⟩, _, rfl, g, (p - 1) / a, p, ?_, by omega, by omega, by omega, rfl, _, rfl, ite2 (fun e5 => ?_) (fun e5 => ?_)⟩
        · have e : ((p : Int) - 1) / (a : Int) = (((p - 1) / a : Nat) : Int) := by
            rw [Int.natCast_ediv, show ((p - 1 : Nat) : Int) = (p : Int) - 1 by omega]
          show [V.int (g : Int), V.int (((p : Int) - 1) / (a : Int)), V.int (p : Int)] = _
          rw [e]
        · rw [dec_vint] at e5
          have e6 : g ^ ((p - 1) / a) % p = 1 := by omega
          rw [e6] at he
          rw [← he] at q
          exact q
        · rw [dec_vint] at e5
          have e6 : ¬ g ^ ((p - 1) / a) % p = 1 := by omega
          rw [beqF e6] at he
          -- while left % at == 0
          refine ⟨fun m2 σ' H'' => H'' = H' ∧ ∃ l2 : Nat, σ' = [some (.int p), some (.int g), some (.int ((p : Int) - 1)), some (.int l2), some (.int a)] ∧ 1 ≤ l2 ∧ l2 ∣ l ∧ l2 ≤ m2 ∧ stripN a m2 l2 = stripN a l l, ⟨l, rfl, l, rfl, hl, Nat.dvd_refl _, by omega, rfl⟩, fun m2 σ' H'' hW2 => ?_⟩
          obtain ⟨rfl, l2, rfl, h21, h22, h23, h24⟩ := hW2
          refine ⟨_, rfl, _, rfl, _, _, rfl, rfl, by omega, rfl, _, rfl, ite2 (fun e7 => ?_) (fun e7 => ?_)⟩
          · rw [dec_vint] at e7
            have e8 : l2 % a = 0 := by omega
            obtain ⟨k2, rfl⟩ : ∃ k2, m2 = k2 + 1 := ⟨m2 - 1, by omega⟩
            rw [stripN_step e8] at h24
            have hal2 : a ≤ l2 := Nat.le_of_dvd (by omega) (Nat.dvd_of_mod_eq_zero e8)
            have hdl : l2 / a < l2 := Nat.div_lt_self (by omega) (by omega)
            refine ⟨fun σ' H2 => ∃ m', m' < k2 + 1 ∧ H2 = H'' ∧ ∃ l2 : Nat, σ' = [some (.int p), some (.int g), some (.int ((p : Int) - 1)), some (.int l2), some (.int a)] ∧ 1 ≤ l2 ∧ l2 ∣ l ∧ l2 ≤ m' ∧ stripN a m' l2 = stripN a l l, fun _ _ h => h, ?_⟩
            refine ⟨_, rfl, _, rfl, _, _, rfl, rfl, ⟨by omega, by omega⟩, ?_⟩
            refine ⟨k2, by omega, rfl, l2 / a, rfl, ?_, Nat.dvd_trans (Nat.div_dvd_of_dvd (Nat.dvd_of_mod_eq_zero e8)) h22, by omega, h24⟩
            exact Nat.div_pos hal2 (by omega)
          · rw [dec_vint] at e7
            have e8 : ¬ l2 % a = 0 := by omega
            rw [stripN_end e8] at h24
            have hle : l2 ≤ l := Nat.le_of_dvd (by omega) h22
            refine ⟨_, rfl, _, _, rfl, rfl, k, by omega, rfl, l2, a + 1, rfl, h21, by omega, by omega, by omega, fun d d1 d2 z => ?_, by omega, ?_⟩
            · by_cases y : d = a
              · subst y
                exact e8 z
              · exact hd d d1 (by omega) (Nat.mod_eq_zero_of_dvd (Nat.dvd_trans (Nat.dvd_of_mod_eq_zero z) h22))
            · rw [h24]
              exact he
      · rw [dec_vint] at e3
        have e4 : ¬ l % a = 0 := by omega
        rw [beqF e4] at he
        refine ⟨_, rfl, _, _, rfl, rfl, k, by omega, rfl, l, a + 1, rfl, hl, hl2, by omega, by omega, fun d d1 d2 => ?_, by omega, he⟩
        by_cases y : d = a
        · subst y
          exact e4
        · exact hd d d1 (by omega)
    · have e1 : l ≤ 1 := by have h := dF e; omega
      have e6 : rootB p g = true := by
        cases m with
        | zero => exact he.symm
        | succ k =>
          unfold rootLoop at he
          rw [Nat.ble_eq_true_of_le e1] at he
          exact he.symm
      rw [e6] at q
      exact q
end
end Lw
namespace Lw
open PySem PySem.Spec PyProof.Rows L2 AD
section
variable {P : Program} {w : World} {K : PySem.W.Frag} {mg : Str → Option Value} {base : Heap}
variable {fa : Nat → Addr} {fd : Nat → FuncData} {tk : Nat → Tok}
/-! ### the law's own defs -/
theorem bits_pow {z : Int} {k : Nat} (h : Builtin.Int.intBits z ≤ k) : z.natAbs < 2 ^ k := by
  unfold Builtin.Int.intBits at h
  split at h
  · rename_i e
    have e' : z = 0 := by simpa using e
    subst e'
    exact Nat.two_pow_pos k
  · exact Nat.lt_of_lt_of_le (Nat.lt_log2_self) (Nat.pow_le_pow_right (by decide) h)
theorem pow_bits {z : Int} {k : Nat} (h : z.natAbs < 2 ^ k) : Builtin.Int.intBits z ≤ k := by
  unfold Builtin.Int.intBits
  split
  · exact Nat.zero_le _
  · rename_i e
    have h0 : z.natAbs ≠ 0 := fun y => e (by simpa using y)
    exact (Nat.log2_lt h0).mpr h
theorem mulBig {i j : Int} {a b : Nat} (hi : i.natAbs < 2 ^ a) (hj : j.natAbs < 2 ^ b) (h : a + b ≤ 100000000) : IntMulOk i j := by
  have h1 := pow_bits hi
  have h2 := pow_bits hj
  have e : bitsLine = 134217728 := by decide
  unfold IntMulOk
  intro y
  rw [Bool.and_eq_true] at y
  have y2 := y.2
  unfold Builtin.Int.intTooBig at y2
  have y3 := of_decide_eq_true y2
  rw [e] at y3
  omega
theorem add_pow {i j : Int} {k : Nat} (hi : i.natAbs < 2 ^ k) (hj : j.natAbs < 2 ^ k) : (i + j).natAbs < 2 ^ (k + 1) := by
  have h := Int.natAbs_add_le i j
  rw [Nat.pow_succ]
  omega
theorem up_pow {i : Int} {k m : Nat} (hi : i.natAbs < 2 ^ k) (h : k ≤ m) : i.natAbs < 2 ^ m := Nat.lt_of_lt_of_le hi (Nat.pow_le_pow_right (by decide) h)
theorem mul_pow2 {i j : Int} {a b : Nat} (ha : i.natAbs < 2 ^ a) (hb : j.natAbs < 2 ^ b) : (i * j).natAbs < 2 ^ (a + b) := by
  rw [Int.natAbs_mul, Nat.pow_add]
  exact Nat.mul_lt_mul'' ha hb
/-- a number comes, which one is not told -/
def spNumber : Sp := fun vs H Q _ => ∃ (c a w : Int) (k : Nat), vs = [.int c, .int a, .int w] ∧ 0 ≤ a ∧ a ≤ 100000 ∧ c.natAbs < 2 ^ k ∧ 64 ≤ k ∧ k ≤ 2000000 ∧ ∀ n : Int, Q (.int n) H
theorem ok__law_number (T : Txt K mg fa fd tk) : FnOk P w K mg base CX0 1 (fa 14) (fd 14) ["_law_cell", "_law_at", "_law_whole"] spNumber := by
  refine T.F__law_number.ok sc__law_number (fun vs H Q E h => ?_) (fun cdv A outer s H vs Q E hr h => ?_)
  · obtain ⟨c, a, w', k, rfl, _⟩ := h
    rfl
  · obtain ⟨c, a, w', k, rfl, ha, ha2, hc, hk, hk2, q⟩ := h
    refine ⟨_, (pss_cons (ps_if (pt_cmpR op_ge (pv 0) (pe_op op_pow pe_int pe_int) (nomark _)) (pss_one (ps_ret (pe_op op_fdiv (pv 0) (pe_op op_add pe_int (pe_op op_mod (pv 1) pe_int))))) pss_nil)
      (pss_cons (ps_set (i := 3) sc__law_number.nd rfl (.inl rfl) (pe_op op_mod (pe_op op_add (pe_op op_mulB (pe_op op_add (pv 0) (pe_op op_mulB pe_int (pv 1))) pe_int) (pv 2)) pe_int))
      (pss_cons (ps_set (i := 4) sc__law_number.nd rfl (.inl rfl) (pe_op op_mulB (pv 3) (pe_op op_add (pe_op op_add (pv 0) (pe_op op_mulB pe_int (pv 1))) pe_int)))
      (pss_one (ps_ret (pe_op op_fdiv (pe_op op_mulB (pe_op op_mulB (pv 4) (pe_op op_add (pe_op op_add (pv 3) (pv 0)) pe_int)) (pe_op op_add (pe_op op_mulB (pv 3) (pv 3)) pe_int)) (pe_op op_add pe_int (pv 1)))))))), ?_⟩
    refine ⟨_, rfl, _, _, rfl, rfl, ⟨by decide, by decide, by decide⟩, _, _, rfl, rfl, _, rfl, ite2 (fun e => ?_) (fun e => ?_)⟩
    · refine ⟨_, rfl, _, rfl, _, _, rfl, rfl, (show (0 : Int) < 7 by decide), _, _, rfl, rfl, _, _, rfl, rfl, ?_, q _⟩
      show 0 < 1 + a % 7 ∧ 1 + a % 7 < 1073741824
      omega
    · have e1 : IntMulOk 977 a := mulL (by decide) (by decide)
      refine ⟨_, rfl, _, rfl, _, _, rfl, rfl, e1, _, _, rfl, rfl, _, _, rfl, rfl, mulR (by decide) (by decide), _, rfl, _, _, rfl, rfl, _, _, rfl, rfl, (show (0 : Int) < 2147483647 by decide), ?_⟩
      -- more
      have p32 : (2 : Nat) ^ 32 = 4294967296 := by decide
      have p64 : (2 : Nat) ^ 64 ≤ 2 ^ k := Nat.pow_le_pow_right (by decide) hk
      have p64' : (2 : Nat) ^ 64 = 18446744073709551616 := by decide
      have b1 : (c + 31 * a + 7).natAbs < 2 ^ (k + 1 + 1) := by
        refine add_pow (add_pow hc ?_) ?_
        · omega
        · rw [Nat.pow_succ]; omega
      have key : ∀ mx : Int, 0 ≤ mx → mx < 2147483647 → IntMulOk mx (c + 31 * a + 7) ∧ IntMulOk (mx * (c + 31 * a + 7)) (mx + c + 5) ∧ IntMulOk mx mx ∧ ∀ i, IntMulOk i (mx * mx + 11) := by
        intro mx m0 m1
        have b2 : mx.natAbs < 2 ^ 32 := by omega
        have b3 : (mx * (c + 31 * a + 7)).natAbs < 2 ^ (32 + (k + 1 + 1)) := mul_pow2 b2 b1
        have b4 : (mx + c + 5).natAbs < 2 ^ (k + 1 + 1) := by
          refine add_pow (add_pow ?_ hc) ?_
          · omega
          · rw [Nat.pow_succ]; omega
        have m2 : mx * mx ≤ 2147483647 * mx := Int.mul_le_mul_of_nonneg_right (Int.le_of_lt m1) m0
        have m3 : 0 ≤ mx * mx := Int.mul_nonneg m0 m0
        exact ⟨mulL (by omega) (by omega), mulBig b3 b4 (by omega), mulL (by omega) (by omega), fun i => mulR (by omega) (by omega)⟩
      obtain ⟨k1, k2, k3, k4⟩ := key (((c + 977 * a) * 48271 + w') % 2147483647) (Int.emod_nonneg _ (by decide)) (Int.emod_lt_of_pos _ (by decide))
      refine ⟨_, rfl, _, rfl, _, rfl, _, _, rfl, rfl, mulL (by decide) (by decide), _, _, rfl, rfl, _, _, rfl, rfl, _, _, rfl, rfl, k1, ?_⟩
      refine ⟨_, rfl, _, rfl, _, rfl, _, _, rfl, rfl, _, _, rfl, rfl, _, _, rfl, rfl, k2, ?_⟩
      refine ⟨_, rfl, _, rfl, _, _, rfl, rfl, k3, _, _, rfl, rfl, _, _, rfl, rfl, k4 _, _, rfl, _, _, rfl, rfl, _, _, rfl, rfl, ?_, q _⟩
      show 0 < 1009 + a ∧ 1009 + a < 1073741824
      omega
end
end Lw
namespace Lw
open PySem PySem.Spec PyProof.Rows L2 AD
section
variable {P : Program} {w : World} {K : PySem.W.Frag} {mg : Str → Option Value} {base : Heap}
variable {fa : Nat → Addr} {fd : Nat → FuncData} {tk : Nat → Tok}
/-! ### the law's primes, powers, roots -/
theorem ix_ints {l : List Nat} {z : Int} {n : Nat} (hn : l.length = n) (h0 : 0 ≤ z) (h1 : z < n) : ∃ p ∈ l, atI (l.map fun i : Nat => V.int i) z = some (.int (p : Nat)) := by
  have h2 : z.toNat < l.length := by omega
  refine ⟨l[z.toNat], List.getElem_mem h2, at_of (j := z.toNat) (by omega) ?_⟩
  rw [List.getElem?_map, List.getElem?_eq_getElem h2]
  rfl
def spPrime : Sp := fun vs H Q _ => ∃ n : Int, vs = [.int n] ∧ ∀ (p : Nat) (H' : Hp), p ∈ PS0 ++ PG0 → Same H H' → Q (.int p) H'
theorem ok__law_prime (T : Txt K mg fa fd tk) : FnOk P w K mg base CX0 1 (fa 15) (fd 15) ["_law_number_here"] spPrime := by
  refine T.F__law_prime.ok sc__law_prime (fun vs H Q E h => ?_) (fun cdv A outer s H vs Q E hr h => ?_)
  · obtain ⟨n, rfl, _⟩ := h
    rfl
  · obtain ⟨n, rfl, q⟩ := h
    refine ⟨_, (pss_cons (ps_set (i := 1) sc__law_prime.nd rfl (.inl rfl) (pe_tup (pa_cons pe_int (pa_cons pe_int (pa_cons pe_int (pa_cons pe_int (pa_cons pe_int (pa_cons pe_int (pa_cons pe_int (pa_cons pe_int (pa_cons pe_int (pa_cons pe_int (pa_cons pe_int (pa_cons pe_int (pa_cons pe_int (pa_cons pe_int (pa_cons pe_int (pa_cons pe_int (pa_cons pe_int pa_nil)))))))))))))))))))
      (pss_cons (ps_if (pt_cmpR op_eq (pe_op op_mod (pv 0) pe_int) pe_int (nomark _)) (pss_one (ps_ret (pe_ix ix_tup (pe_tup (pa_cons pe_int (pa_cons pe_int (pa_cons pe_int (pa_cons pe_int (pa_cons pe_int pa_nil)))))) (pe_op op_mod (pe_op op_fdiv (pv 0) pe_int) pe_int) (fun _ _ => rfl)))) pss_nil)
      (pss_one (ps_ret (pe_ix ix_tup (pv 1) (pe_op op_mod (pe_op op_fdiv (pv 0) pe_int) pe_int) (fun _ _ => rfl)))))), ?_⟩
    refine ⟨by show 17 ≤ sizeLine; decide, fun t ht => ?_⟩
    have s1 : Same H (upd H t (.tup (PS0.map fun i : Nat => V.int i))) := same_upd ht
    refine ⟨_, rfl, _, _, rfl, rfl, (show (0 : Int) < 8 by decide), rfl, _, rfl, ite2 (fun e => ?_) (fun e => ?_)⟩
    · refine ⟨by show 5 ≤ sizeLine; decide, fun u hu => ?_⟩
      obtain ⟨p, hp, hx⟩ := ix_ints (l := PG0) (z := n / 8 % 5) (n := 5) rfl (Int.emod_nonneg _ (by decide)) (Int.emod_lt_of_pos _ (by decide))
      refine ⟨_, rfl, _, _, rfl, rfl, ⟨by decide, by decide⟩, _, _, rfl, rfl, (show (0 : Int) < 5 by decide), u, _, _, _, rfl, rfl, SqT.of upd_same, hx, q p _ (List.mem_append_right _ hp) (s1.trans (same_upd hu))⟩
    · obtain ⟨p, hp, hx⟩ := ix_ints (l := PS0) (z := n / 8 % 17) (n := 17) rfl (Int.emod_nonneg _ (by decide)) (Int.emod_lt_of_pos _ (by decide))
      refine ⟨_, rfl, _, rfl, _, _, rfl, rfl, ⟨by decide, by decide⟩, _, _, rfl, rfl, (show (0 : Int) < 17 by decide), t, _, _, _, rfl, rfl, SqT.of upd_same, hx, q p _ (List.mem_append_left _ hp) s1⟩
/-- the powers from the first one on -/
def powL (p g n : Nat) : List V := (List.range n).map fun i => V.int ((g ^ (i + 1) % p : Nat) : Int)
theorem powL_len (p g n : Nat) : (powL p g n).length = n := by unfold powL; rw [List.length_map, List.length_range]
theorem powL_succ (p g n : Nat) : powL p g (n + 1) = powL p g n ++ [V.int ((g ^ (n + 1) % p : Nat) : Int)] := by
  unfold powL
  rw [List.range_succ, List.map_append]
  rfl
theorem powL_last (p g n : Nat) : atI (powL p g (n + 1)) (-1) = some (V.int ((g ^ (n + 1) % p : Nat) : Int)) := by
  rw [powL_succ]
  exact atI_last _ _
def spPowers : Sp := fun vs H Q _ => ∃ p g : Nat, vs = [.int p, .int g] ∧ 3 ≤ p ∧ p ≤ 2000 ∧ g < p ∧ ∀ (H' : Hp) (a : Addr), Same H H' → H a = none → H' a = some (.lst (powL p g (plen p g))) → Q (.ref a) H'
theorem ok__law_powers (T : Txt K mg fa fd tk) : FnOk P w K mg base CX0 1 (fa 16) (fd 16) ["_law_prime_here", "_law_number_here"] spPowers := by
  refine T.F__law_powers.ok sc__law_powers (fun vs H Q E h => ?_) (fun cdv A outer s H vs Q E hr h => ?_)
  · obtain ⟨p, g, rfl, _⟩ := h
    rfl
  · obtain ⟨p, g, rfl, hp, hp2, hg, q⟩ := h
    refine ⟨_, (pss_cons (ps_set (i := 2) sc__law_powers.nd rfl (.inl rfl) (pe_lst (pa_cons (pe_op op_mod (pv 1) (pv 0)) pa_nil)))
      (pss_cons (ps_while PassesOwn.never (PW.pt (pw_and (pt_cmpR op_ne (pe_ix ix_list (pv 2) (pe_un un_neg pe_int) (fun _ _ => rfl)) pe_int (nomark _)) (pw_and1 (pt_cmpR op_lt (pe_callB call_len_seq (by rfl) T.m_len (by decide +kernel) (pa_cons (pv 2) pa_nil)) (pv 0) (nomark _))))) (pss_one (ps_expr (pe_bm PySem.F.plainAttrs_list PySem.F.slot_list_append PySem.F.type_list_append mt_append (pv 2) (pa_cons (pe_op op_mod (pe_op op_mulB (pe_ix ix_list (pv 2) (pe_un un_neg pe_int) (fun _ _ => rfl)) (pv 1)) (pv 0)) pa_nil)))))
      (pss_one (ps_ret (pv 2))))), ?_⟩
    refine ⟨_, rfl, _, rfl, _, _, rfl, rfl, (show (0 : Int) < p by omega), by show 1 ≤ sizeLine; decide, fun a ha => ?_⟩
    let W : Nat → L2.St → Hp → Prop := fun m σ H' => σ = [some (.int p), some (.int g), some (.ref a)] ∧ ∃ n, Same H H' ∧ H' a = some (.lst (powL p g (n + 1))) ∧ m + (n + 1) = p ∧ ∀ k, 1 ≤ k → k < n + 1 → g ^ k % p ≠ 1
    refine ⟨W, ⟨p - 1, rfl, 0, same_upd ha, ?_, by omega, fun k k1 k2 => by omega⟩, fun m σ H' hW => ?_⟩
    · rw [upd_same, powL_succ]
      show some (HO.lst [V.int ((g : Int) % (p : Int))]) = some (HO.lst ([] ++ [V.int ((g ^ 1 % p : Nat) : Int)]))
      rw [Nat.pow_one]
      rfl
    obtain ⟨rfl, n, sm, hl, hm, hno⟩ := hW
    have hq : SqL K H' a (powL p g (n + 1)) := .of hl
    refine ⟨_, rfl, 1, rfl, a, _, _, _, rfl, rfl, hq, powL_last p g n, rfl, _, rfl, ite2 (fun e => ?_) (fun e => ?_)⟩
    · have e1 : ¬ g ^ (n + 1) % p = 1 := fun z => by
        rw [z] at e
        cases e
      refine ⟨_, rfl, a, _, rfl, .inl hq, _, rfl, _, _, rfl, rfl, _, rfl, ite2 (fun e2 => ?_) (fun e2 => ?_)⟩
      · have e3 : n + 1 < p := by
          have h := dT e2
          rw [powL_len] at h
          omega
        have hlt := Nat.mod_lt (g ^ (n + 1)) (show p > 0 by omega)
        refine ⟨fun σ' H'' => ∃ m', m' < m ∧ W m' σ' H'', fun _ _ h => h, ?_⟩
        refine ⟨_, rfl, .inl ⟨rfl, _, hq⟩, _, rfl, 1, rfl, a, _, _, _, rfl, rfl, hq, powL_last p g n, _, rfl, _, _, rfl, rfl, mulL (by omega) (by omega), _, rfl, _, _, rfl, rfl, (show (0 : Int) < p by omega), a, _, _, rfl, rfl, hl, ?_, ?_⟩
        · rw [powL_len]
          exact Nat.lt_of_lt_of_le (show n + 1 < 2000 by omega) (by decide)
        · refine ⟨m - 1, by omega, rfl, n + 1, fun b o h => ?_, ?_, by omega, fun k k1 k2 => ?_⟩
          · rw [upd_ne (ne_of_none h ha)]
            exact sm b o h
          · rw [upd_same, powL_succ p g (n + 1)]
            have e9 : g ^ (n + 1 + 1) % p = (g ^ (n + 1) % p * g) % p := by rw [Nat.pow_succ g (n + 1), Nat.mod_mul_mod]
            rw [e9]
            rfl
          · by_cases z : k = n + 1
            · rw [z]; exact e1
            · exact hno k k1 (by omega)
      · have e3 : n + 1 = p := by
          have h := dF e2
          rw [powL_len] at h
          omega
        have z : plen p g = n + 1 := plen_unique (by omega) (by omega) (by omega) hno (.inr e3)
        rw [← z] at hl
        exact ⟨_, rfl, q H' a sm ha hl⟩
    · have e1 : g ^ (n + 1) % p = 1 := by
        by_cases z : g ^ (n + 1) % p = 1
        · exact z
        · refine absurd ?_ e
          rw [Bool.not_eq_true', decide_eq_false_iff_not]
          intro y
          have := V.int.inj y
          omega
      have z : plen p g = n + 1 := plen_unique (by omega) (by omega) (by omega) hno (.inl e1)
      rw [← z] at hl
      exact iteF ⟨_, rfl, q H' a sm ha hl⟩
/-- a root comes; of 0 the least one -/
def spRoot : Sp := fun vs H Q _ => ∃ (p r0 : Nat) (n : Int), vs = [.int p, .int n] ∧ Root p r0 ∧ ∀ (r : Nat) (H' : Hp), Root p r → (n = 0 → ∀ g, 1 ≤ g → g < r → plen p g ≠ p - 1) → Same H H' → Q (.int r) H'
theorem ok__law_root (T : Txt K mg fa fd tk) : FnOk P w K mg base CX0 2 (fa 17) (fd 17) ["_law_prime_here", "_law_number_here"] spRoot := by
  refine T.F__law_root.ok sc__law_root (fun vs H Q E h => ?_) (fun cdv A outer s H vs Q E hr h => ?_)
  · obtain ⟨p, r0, n, rfl, _⟩ := h
    rfl
  · obtain ⟨p, r0, n, rfl, R, q⟩ := h
    have lo := R.good.lo
    have hi := R.good.hi
    have r1 := R.one
    have r2 := R.lt
    refine ⟨_, (pss_cons (ps_set (i := 2) sc__law_root.nd rfl (.inl rfl) (pe_op op_add pe_int (pe_op op_mod (pv 1) (pe_op op_sub (pv 0) pe_int))))
      (pss_cons (ps_while PassesOwn.never (pt_cmpR op_lt (pe_callB call_len_seq (by rfl) T.m_len (by decide +kernel) (pa_cons (pe_call (ok__law_powers T) (hr.mono (by decide)) (by rfl) T.g__law_powers T.F__law_powers.kp T.b__law_powers .nil pass0 (pa_cons (pv 0) (pa_cons (pv 2) pa_nil))) pa_nil)) (pe_op op_sub (pv 0) pe_int) (nomark _)) (pss_one (ps_set (i := 2) sc__law_root.nd rfl (.inl rfl) (pe_op op_add pe_int (pe_op op_mod (pv 2) (pe_op op_sub (pv 0) pe_int))))))
      (pss_one (ps_ret (pv 2))))), ?_⟩
    refine ⟨_, rfl, _, rfl, _, _, rfl, rfl, _, _, rfl, rfl, (show (0 : Int) < (p : Int) - 1 by omega), _, _, rfl, rfl, ?_⟩
    let W : Nat → L2.St → Hp → Prop := fun m σ H' => Same H H' ∧ ∃ a : Nat, σ = [some (.int p), some (.int n), some (.int a)] ∧ 1 ≤ a ∧ a < p ∧ m = (if a ≤ r0 then r0 - a else r0 + (p - 1) - a) ∧ (n = 0 → ∀ g, 1 ≤ g → g < a → plen p g ≠ p - 1)
    have n0 := Int.emod_nonneg n (show (p : Int) - 1 ≠ 0 by omega)
    have n1 := Int.emod_lt_of_pos n (show (0 : Int) < (p : Int) - 1 by omega)
    refine ⟨W, ⟨_, Same.refl H, (1 + n % ((p : Int) - 1)).toNat, ?_, by omega, by omega, rfl, fun z g g1 g2 => ?_⟩, fun m σ H' hW => ?_⟩
    · rw [Int.toNat_of_nonneg (by omega)]
      rfl
    · subst z
      rw [Int.zero_emod] at g2
      omega
    obtain ⟨sm, a, rfl, a1, a2, hm, hno⟩ := hW
    refine ⟨_, rfl, _, rfl, p, a, rfl, lo, hi, a2, fun H2 l s2 nl hl => ?_⟩
    refine ⟨l, _, rfl, .inl (.of hl), _, rfl, _, _, rfl, rfl, _, _, rfl, rfl, _, rfl, ite2 (fun e => ?_) (fun e => ?_)⟩
    · have e1 : plen p a ≠ p - 1 := by
        have h := dT e
        rw [powL_len] at h
        omega
      have ne : a ≠ r0 := fun z => by
        rw [z] at e1
        exact e1 R.len
      refine ⟨fun σ' H'' => ∃ m', m' < m ∧ W m' σ' H'', fun _ _ h => h, ?_⟩
      refine ⟨_, rfl, _, rfl, _, _, rfl, rfl, _, _, rfl, rfl, (show (0 : Int) < (p : Int) - 1 by omega), _, _, rfl, rfl, ?_⟩
      by_cases z : a = p - 1
      · subst z
        refine ⟨_, ?_, sm.trans s2, 1, ?_, by omega, by omega, rfl, fun _ g g1 g2 => by omega⟩
        · rw [hm, if_pos (show 1 ≤ r0 from r1), if_neg (by omega)]
          omega
        · have e2 : ((p - 1 : Nat) : Int) % ((p : Int) - 1) = 0 := by
            rw [show ((p - 1 : Nat) : Int) = (p : Int) - 1 by omega, Int.emod_self]
          show [some (V.int (p : Int)), some (V.int n), some (V.int (1 + ((p - 1 : Nat) : Int) % ((p : Int) - 1)))] = _
          rw [e2]
          rfl
      · refine ⟨_, ?_, sm.trans s2, a + 1, ?_, by omega, by omega, rfl, fun hz g g1 g2 => ?_⟩
        · rw [hm]
          split <;> split <;> omega
        · have e2 : (a : Int) % ((p : Int) - 1) = a := Int.emod_eq_of_lt (by omega) (by omega)
          show [some (V.int (p : Int)), some (V.int n), some (V.int (1 + (a : Int) % ((p : Int) - 1)))] = _
          rw [e2, Int.add_comm]
          rfl
        · by_cases y : g = a
          · rw [y]; exact e1
          · exact hno hz g g1 (by omega)
    · have e1 : plen p a = p - 1 := by
        have h := dF e
        rw [powL_len] at h
        have := R.good.plen_le a1 a2
        omega
      exact ⟨_, rfl, q a H2 ⟨R.good, a1, a2, e1⟩ hno (sm.trans s2)⟩
end
end Lw
namespace Lw
open PySem PySem.Spec PyProof.Rows L2 AD
section
variable {P : Program} {w : World} {K : PySem.W.Frag} {mg : Str → Option Value} {base : Heap}
variable {fa : Nat → Addr} {fd : Nat → FuncData} {tk : Nat → Tok}
/-! ### the cells -/
theorem cast_ne0 {n : Nat} (h : n ≠ 0) : (0 : Int) < (n : Int) := by omega
theorem six_bits : (6 : Int).natAbs < 2 ^ 1048576 := Nat.lt_of_lt_of_le (by decide : (6 : Nat) < 2 ^ 3) (Nat.pow_le_pow_right (by decide) (by decide))
def Small (ns : List Int) : Prop := ns.length ≤ 63 ∧ ∀ z ∈ ns, Builtin.Int.intBits z ≤ 1048576
/-- the cells: those of the script, or a 6 -/
def cellsOf (ns : List Int) : List Int := if ns = [] then [6] else ns
theorem cells_len {ns : List Int} (h : Small ns) : 1 ≤ (cellsOf ns).length ∧ (cellsOf ns).length ≤ 63 := by
  unfold cellsOf
  split
  · exact ⟨by decide, by decide⟩
  · rename_i e
    refine ⟨?_, h.1⟩
    cases ns with
    | nil => exact absurd rfl e
    | cons _ _ => exact Nat.succ_le_succ (Nat.zero_le _)
theorem cells_bits {ns : List Int} (h : Small ns) : ∀ z ∈ cellsOf ns, z.natAbs < 2 ^ 1048576 := by
  unfold cellsOf
  split
  · intro z hz
    rw [List.mem_singleton.mp hz]
    exact six_bits
  · exact fun z hz => bits_pow (h.2 z hz)
/-- an item of a list of ints, by a number from 0 on -/
theorem atI_ints {ns : List Int} {z : Int} (h0 : 0 ≤ z) (h1 : z < (ns.length : Int)) : ∃ y ∈ ns, atI (ns.map V.int) z = some (.int y) := by
  have h2 : z.toNat < ns.length := by omega
  refine ⟨ns[z.toNat], List.getElem_mem h2, at_of (j := z.toNat) (by omega) ?_⟩
  rw [List.getElem?_map, List.getElem?_eq_getElem h2]
  rfl
end
end Lw
namespace Lw
open PySem PySem.Spec PyProof.Rows L2 AD
section
variable {P : Program} {w : World} {K : PySem.W.Frag} {mg : Str → Option Value} {base : Heap}
variable {fa : Nat → Addr} {fd : Nat → FuncData} {tk : Nat → Tok}
/-! ### asked_root, asked_plan, row_of, found_column, column_of, dots_of -/
def spAskedRoot : Sp := fun vs H Q _ => ∃ p g : Nat, vs = [.int p, .int g] ∧ Root p g ∧ rootB p g = true ∧ Q .non H
theorem ok_asked_root (T : Txt K mg fa fd tk) : FnOk P w K mg base CX0 3 (fa 7) (fd 7) ["prime", "root"] spAskedRoot := by
  refine T.F_asked_root.ok sc_asked_root (fun vs H Q E h => ?_) (fun cdv A outer s H vs Q E hr h => ?_)
  · obtain ⟨p, m, rfl, _⟩ := h
    rfl
  · obtain ⟨p, g, rfl, R, hB, q⟩ := h
    have lo := R.good.lo
    have hi := R.good.hi
    have g1 := R.one
    have g2 := R.lt
    refine ⟨_, (pss_one (ps_if (PW.pt (pw_or (pt_not (pt_val (pe_call (ok_is_whole T) (hr.mono (by decide)) (by rfl) T.g_is_whole T.F_is_whole.kp T.b_is_whole .nil pass0 (pa_cons (pv 1) pa_nil)))) (pw_or (pt_not (pt_chain op_le op_lt pe_int (pv 1) (pv 0))) (pw_or1 (pt_not (pt_val (pe_call (ok_root_of T) (hr.mono (by decide)) (by rfl) T.g_root_of T.F_root_of.kp T.b_root_of .nil pass0 (pa_cons (pv 0) (pa_cons (pv 1) pa_nil))))))))) (pss_one ps_never) pss_nil)), ?_⟩
    refine ⟨_, rfl, _, rfl, .inl ⟨_, rfl, _, rfl, iteF ?_⟩⟩
    refine ⟨_, rfl, _, _, rfl, rfl, _, rfl, ?_⟩
    rw [decide_eq_true (show (1 : Int) ≤ g by omega)]
    refine iteT ⟨_, rfl, _, _, rfl, rfl, _, rfl, ?_⟩
    rw [decide_eq_true (show (g : Int) < p by omega)]
    refine iteF ⟨_, rfl, _, rfl, p, g, rfl, lo, hi, g2, _, rfl, ?_⟩
    rw [hB]
    exact iteF q
def spAskedPlan : Sp := fun vs H Q _ => ∃ (p g m : Nat) (b : Int), vs = [.int p, .int g, .int b, .int m] ∧ Root p g ∧ rootB p g = true ∧ p ≤ m ∧ Q .non H
theorem ok_asked_plan (T : Txt K mg fa fd tk) : FnOk P w K mg base CX0 4 (fa 12) (fd 12) ["prime", "root", "begin", "most"] spAskedPlan := by
  refine T.F_asked_plan.ok sc_asked_plan (fun vs H Q E h => ?_) (fun cdv A outer s H vs Q E hr h => ?_)
  · obtain ⟨p, g, m, b, rfl, _⟩ := h
    rfl
  · obtain ⟨p, g, m, b, rfl, R, hB, hm, q⟩ := h
    refine ⟨_, (pss_cons (ps_expr (pe_call (ok_asked_prime T) (hr.mono (by decide)) (by rfl) T.g_asked_prime T.F_asked_prime.kp T.b_asked_prime .nil pass0 (pa_cons (pv 0) (pa_cons (pv 3) pa_nil))))
      (pss_cons (ps_expr (pe_call (ok_asked_root T) (hr.mono (by decide)) (by rfl) T.g_asked_root T.F_asked_root.kp T.b_asked_root .nil pass0 (pa_cons (pv 0) (pa_cons (pv 1) pa_nil))))
      (pss_one (ps_if (pt_not (pt_val (pe_call (ok_is_whole T) (hr.mono (by decide)) (by rfl) T.g_is_whole T.F_is_whole.kp T.b_is_whole .nil pass0 (pa_cons (pv 2) pa_nil)))) (pss_one ps_never) pss_nil)))), ?_⟩
    refine ⟨_, rfl, _, rfl, p, m, rfl, R.good, hm, ?_⟩
    refine ⟨_, rfl, _, rfl, p, g, rfl, R, hB, ?_⟩
    exact ⟨_, rfl, _, rfl, .inl ⟨_, rfl, _, rfl, iteF q⟩⟩
/-- the tuple's second place: what power is asked for -/
theorem pow_arg {p g : Nat} {b : Int} (hp : 3 ≤ p) : [V.int (g : Int), V.int (b % ((p : Int) - 1)), V.int (p : Int)] = [V.int ((g : Nat) : Int), V.int ((be p b : Nat) : Int), V.int ((p : Nat) : Int)] := by
  rw [be_cast hp]
/-- all dots: a new list -/
def spDotsOf : Sp := fun vs H Q _ => ∃ (p g : Nat) (b : Int), vs = [.int p, .int g, .int b] ∧ Root p g ∧ rootB p g = true ∧ p ≤ 61 ∧ ∀ (H' : Hp) (a : Addr), Same H H' → H a = none → H' a = some (.lst ((rowsI p g b).map V.int)) → Q (.ref a) H'
theorem ok_dots_of (T : Txt K mg fa fd tk) : FnOk P w K mg base CX0 5 (fa 13) (fd 13) ["prime", "root", "begin"] spDotsOf := by
  refine T.F_dots_of.ok sc_dots_of (fun vs H Q E h => ?_) (fun cdv A outer s H vs Q E hr h => ?_)
  · obtain ⟨p, g, b, rfl, _⟩ := h
    rfl
  · obtain ⟨p, g, b, rfl, R, hB, hp, q⟩ := h
    have lo := R.good.lo
    have g2 := R.lt
    refine ⟨_, (pss_cons (ps_expr (pe_call (ok_asked_plan T) (hr.mono (by decide)) (by rfl) T.g_asked_plan T.F_asked_plan.kp T.b_asked_plan .nil pass0 (pa_cons (pv 0) (pa_cons (pv 1) (pa_cons (pv 2) (pa_cons (pe_glob (v := .int 61) rfl T.g_SMALL ⟨_, rfl⟩) pa_nil))))))
      (pss_one (ps_ret (pe_lc (own := [("column", 3)]) (g := gName 3) (tt := tYes) (by rfl) sc_dots_of.nd (pi_range1 (by rfl) T.m_range (pa_cons (pe_op op_sub (pv 0) pe_int) pa_nil)) (blkOk_by (own := [("column", 3)]) (N := ["prime", "root", "begin", "column"]) (sc := (defScope s_dots_of)) (by decide +kernel)) (fun _ _ _ _ _ => (pg_name (i := 3) sc_dots_of.nd rfl (Or.inl rfl))) (fun _ _ _ _ _ => pts_nil) (fun _ _ _ _ _ => (pe_op op_sub (pe_call (ok_power T) (hr.mono (by decide)) (by rfl) T.g_power T.F_power.kp T.b_power .nil pass0 (pa_cons (pv 1) (pa_cons (pe_op op_mod (pe_op op_add (pv 2) (pv 3)) (pe_op op_sub (pv 0) pe_int)) (pa_cons (pv 0) pa_nil)))) pe_int)))))), ?_⟩
    refine ⟨_, rfl, _, rfl, _, rfl, p, g, 61, b, rfl, R, hB, hp, ?_⟩
    refine ⟨_, rfl, _, _, rfl, rfl, _, rfl, by omega, by omega, fun D nD => ?_⟩
    refine lc_it (walk_range (lo := 0) (n := ((p : Int) - 1).toNat)) (fun i H' => Same H H' ∧ H' D = some (.lst (((rowsI p g b).take i).map V.int))) ⟨same_upd nD, upd_same⟩ (fun _ _ _ _ => True.intro) (fun i x H4 H5 hi hP hY => ?_) (fun H4 hP => ?_)
    · obtain ⟨sm, hD⟩ := hP
      obtain ⟨rfl, rfl⟩ := hY
      refine ⟨rfl, ?_⟩
      have hi2 : i < p - 1 := by omega
      refine ⟨_, rfl, _, rfl, _, rfl, _, _, rfl, rfl, _, rfl, _, _, rfl, rfl, _, _, rfl, rfl, (show (0 : Int) < (p : Int) - 1 by omega), _, rfl, g, be p (b + i), p, ?_, by omega, by omega, by omega, _, _, rfl, rfl, _, hD, ?_, ?_, ?_⟩
      · show [V.int (g : Int), V.int ((b + (0 + (i : Int))) % ((p : Int) - 1)), V.int (p : Int)] = _
        rw [Int.zero_add]
        exact pow_arg lo
      · rw [List.length_map, List.length_take]
        exact Nat.lt_of_le_of_lt (Nat.min_le_left _ _) (Nat.lt_of_lt_of_le (show i < 100 by omega) (by decide))
      · intro x o h
        rw [upd_ne (ne_of_none h nD)]
        exact sm x o h
      · rw [upd_same, List.take_add_one, rowsI_at hi2, List.map_append, R.row_be]
        rfl
    · obtain ⟨sm, hD⟩ := hP
      rw [List.take_of_length_le (by rw [rowsI_len]; omega)] at hD
      exact q _ D sm nD hD
end
end Lw
namespace Lw
open PySem PySem.Spec PyProof.Rows L2 AD
section
variable {P : Program} {w : World} {K : PySem.W.Frag} {mg : Str → Option Value} {base : Heap}
variable {fa : Nat → Addr} {fd : Nat → FuncData} {tk : Nat → Tok}
/-! ### the law's plans and rows -/
/-- a prime, a root, a beginning come -/
def spPlan (K : PySem.W.Frag) : Sp := fun vs H Q _ => ∃ (a : Addr) (ns : List Int) (k : Nat), vs = [.ref a, .int k] ∧ SqL K H a (ns.map V.int) ∧ Small ns ∧ k ≤ 1000 ∧
  ∀ (H' : Hp) (t : Addr) (p g : Nat) (b : Int), p ∈ PS0 ++ PG0 → Root p g → Same H H' → H' t = some (.tup [.int p, .int g, .int b]) → Q (.ref t) H'
theorem ok__law_plan (T : Txt K mg fa fd tk) : FnOk P w K mg base CX0 3 (fa 18) (fd 18) ["_law_script", "_law_by"] (spPlan K) := by
  refine T.F__law_plan.ok sc__law_plan (fun vs H Q E h => ?_) (fun cdv A outer s H vs Q E hr h => ?_)
  · obtain ⟨a, ns, k, rfl, _⟩ := h
    rfl
  · obtain ⟨a, ns, k, rfl, hS, hsm, hk, q⟩ := h
    have hu := hr.units
    refine ⟨_, (C8.pss_cut (ps_set (i := 2) sc__law_plan.nd rfl (.inl rfl) (pe_ifExp (pt_cmpR (op_neL hu) (pv 0) (pe_lst pa_nil) (nomark _)) (pe_slice sl_list (pv 0) po_none (po_some pe_int)) (pe_lst (pa_cons pe_int pa_nil))))
      (pss_cons (ps_set (i := 3) sc__law_plan.nd rfl (.inl rfl) (pe_call (ok__law_number T) (hr.mono (by decide)) (by rfl) T.g__law_number T.F__law_number.kp T.b__law_number .nil pass0 (pa_cons (pe_ix ix_list (pv 2) (pe_op op_mod (pv 1) (pe_callB call_len_seq (by rfl) T.m_len (by decide +kernel) (pa_cons (pv 2) pa_nil))) (fun _ _ => rfl)) (pa_cons (pv 1) (pa_cons (pe_callB call_len_seq (by rfl) T.m_len (by decide +kernel) (pa_cons (pv 2) pa_nil)) pa_nil)))))
      (pss_cons (ps_set (i := 4) sc__law_plan.nd rfl (.inl rfl) (pe_call (ok__law_prime T) (hr.mono (by decide)) (by rfl) T.g__law_prime T.F__law_prime.kp T.b__law_prime .nil pass0 (pa_cons (pv 3) pa_nil)))
      (pss_cons (ps_set (i := 5) sc__law_plan.nd rfl (.inl rfl) (pe_ifExp (pt_cmpR op_gt (pe_op op_mod (pv 3) pe_int) pe_int (nomark _)) (pe_op op_mod (pe_op op_fdiv (pv 3) pe_int) (pe_op op_mulB pe_int (pv 4))) (pe_op op_sub (pe_op op_fdiv (pv 3) pe_int) (pe_op op_pow pe_int pe_int))))
      (pss_one (ps_ret (pe_tup (pa_cons (pv 4) (pa_cons (pe_call (ok__law_root T) (hr.mono (by decide)) (by rfl) T.g__law_root T.F__law_root.kp T.b__law_root .nil pass0 (pa_cons (pv 4) (pa_cons (pe_op op_fdiv (pv 3) pe_int) pa_nil))) (pa_cons (pv 5) pa_nil)))))))))), ?_⟩
    -- the cells
    refine ⟨fun σ' H' => ∃ c, Same H H' ∧ H' c = some (.lst ((cellsOf ns).map V.int)) ∧ σ' = [some (.ref a), some (.int k), some (.ref c), none, none, none], ?_, fun σ' H1 hM => ?_⟩
    · refine ⟨_, rfl, Nat.zero_le _, fun e ne => ?_⟩
      have s0 := same_upd (o := .lst []) ne
      refine ⟨a, e, ns, [], rfl, rfl, s0.seq hS, .of upd_same, _, rfl, ite2 (fun e1 => ?_) (fun e1 => ?_)⟩
      · have e2 : ns ≠ [] := fun z => by
          rw [z] at e1
          cases e1
        refine ⟨_, rfl, 63, rfl, a, _, rfl, s0.seq hS, fun c nc => ⟨c, s0.trans (same_upd nc), ?_, rfl⟩⟩
        rw [upd_same, show (63 : Int) = ((63 : Nat) : Int) from rfl, cutV_to, List.take_of_length_le hsm.1]
        unfold cellsOf
        rw [if_neg e2]
      · have e2 : ns = [] := by
          by_cases z : ns = []
          · exact z
          · refine absurd ?_ e1
            rw [decide_eq_false z]
            rfl
        refine ⟨by show 1 ≤ sizeLine; decide, fun c nc => ⟨c, s0.trans (same_upd nc), ?_, rfl⟩⟩
        rw [upd_same]
        unfold cellsOf
        rw [if_pos e2]
        rfl
    obtain ⟨c, s1, hc, rfl⟩ := hM
    obtain ⟨hl1, hl2⟩ := cells_len hsm
    have hq : SqL K H1 c ((cellsOf ns).map V.int) := .of hc
    obtain ⟨y, hy, ey⟩ := atI_ints (ns := cellsOf ns) (z := (k : Int) % ((cellsOf ns).length : Int)) (Int.emod_nonneg _ (by omega)) (Int.emod_lt_of_pos _ (by omega))
    have el : (((cellsOf ns).map V.int).length : Int) = ((cellsOf ns).length : Int) := by rw [List.length_map]
    refine ⟨_, rfl, _, rfl, _, rfl, c, _, rfl, .inl hq, _, _, rfl, rfl, ?_, c, _, _, _, rfl, rfl, hq, ?_, _, rfl, _, rfl, c, _, rfl, .inl hq, y, k, _, 1048576, rfl, by omega, by omega, cells_bits hsm y hy, by decide, by decide, fun n => ?_⟩
    · show (0 : Int) < (((cellsOf ns).map V.int).length : Int)
      omega
    · show atI ((cellsOf ns).map V.int) ((k : Int) % (((cellsOf ns).map V.int).length : Int)) = _
      rw [el]
      exact ey
    refine ⟨_, rfl, n, rfl, fun p H2 hp s2 => ?_⟩
    have P := prm_in hp
    have lo := P.good.lo
    have hi := P.good.hi
    refine ⟨_, rfl, _, _, rfl, rfl, (show (0 : Int) < 3 by decide), _, _, rfl, rfl, _, rfl, ite2 (fun e => ?_) (fun e => ?_)⟩
    · refine ⟨_, rfl, _, _, rfl, rfl, ⟨by decide, by decide⟩, _, rfl, _, _, rfl, rfl, mulL (by decide) (by decide), _, _, rfl, rfl, (show (0 : Int) < 2 * (p : Int) by omega), ?_⟩
      refine ⟨_, rfl, _, rfl, _, rfl, _, _, rfl, rfl, ⟨by decide, by decide⟩, p, lr p, _, rfl, P.root, fun r H3 R _ s3 => ?_⟩
      exact ⟨_, rfl, by show 3 ≤ sizeLine; decide, fun t nt => q _ t p r _ hp R ((s1.trans (s2.trans s3)).trans (same_upd nt)) upd_same⟩
    · refine ⟨_, rfl, _, _, rfl, rfl, ⟨by decide, by decide⟩, _, _, rfl, rfl, ⟨by decide, by decide, by decide⟩, _, _, rfl, rfl, ?_⟩
      refine ⟨_, rfl, _, rfl, _, rfl, _, _, rfl, rfl, ⟨by decide, by decide⟩, p, lr p, _, rfl, P.root, fun r H3 R _ s3 => ?_⟩
      exact ⟨_, rfl, by show 3 ≤ sizeLine; decide, fun t nt => q _ t p r _ hp R ((s1.trans (s2.trans s3)).trans (same_upd nt)) upd_same⟩
end
end Lw
namespace Lw
open PySem PySem.Spec PyProof.Rows L2 AD
section
variable {P : Program} {w : World} {K : PySem.W.Frag} {mg : Str → Option Value} {base : Heap}
variable {fa : Nat → Addr} {fd : Nat → FuncData} {tk : Nat → Tok}
/-! ### lists of numbers -/
/-- a list of numbers from 0 on -/
def nats (l : List Nat) : List V := l.map fun n : Nat => V.int (n : Int)
theorem nats_at {l : List Nat} {i : Nat} {x : V} (h : (nats l)[i]? = some x) : ∃ n ∈ l, x = .int (n : Int) := by
  unfold nats at h
  rw [List.getElem?_map] at h
  cases e : l[i]? with
  | none => rw [e] at h; cases h
  | some n =>
    rw [e] at h
    exact ⟨n, List.mem_of_getElem? e, (Option.some.inj h).symm⟩
theorem ints_at {l : List Int} {c : Nat} {z : Int} (h : l[c]? = some z) : atI (l.map V.int) (c : Int) = some (.int z) := by
  refine atI_nat ?_
  rw [List.getElem?_map, h]
  rfl
theorem nats_ints (l : List Nat) : nats l = (l.map fun n : Nat => (n : Int)).map V.int := by
  unfold nats
  rw [List.map_map]
  rfl
theorem rgV_nats (n : Nat) : rgV 0 (n : Int) = nats (List.range n) := by
  unfold rgV nats
  rw [show ((n : Int) - 0).toNat = n by omega]
  refine List.map_congr_left fun i _ => ?_
  rw [Int.zero_add]
theorem iteN {A B : Prop} {a b : V} (h : a = b) (q : B) : if (!decide (a = b)) = true then A else B := iteNS h q
end
end Lw
namespace Lw
open PySem PySem.Spec PyProof.Rows L2 AD
section
variable {P : Program} {w : World} {K : PySem.W.Frag} {mg : Str → Option Value} {base : Heap}
variable {fa : Nat → Addr} {fd : Nat → FuncData} {tk : Nat → Tok}
/-! ### first_same -/
theorem getD_at {ns : List Int} {c : Nat} (h : c < ns.length) : ns[c]? = some (ns.getD c 0) := by
  rw [List.getD_eq_getElem?_getD, List.getElem?_eq_getElem h]
  rfl
theorem atD {ns : List Int} {c : Nat} (h : c < ns.length) : atI (ns.map V.int) (c : Int) = some (.int (ns.getD c 0)) := by
  refine atI_nat ?_
  rw [List.getElem?_map, getD_at h]
  rfl
theorem putK_len (kvs : List (Key × V)) (k : Key) (v : V) : (putK kvs k v).length ≤ kvs.length + 1 := by
  unfold putK
  split
  · rw [List.length_map]; omega
  · rw [List.length_append]; exact Nat.le_refl _
def spFirst (K : PySem.W.Frag) : Sp := fun vs H Q _ => ∃ (a : Addr) (ns : List Int), vs = [.ref a] ∧ SqL K H a (ns.map V.int) ∧ ns.length ≤ 1000 ∧ (∀ H', Apt ns → Same H H' → Q .non H') ∧
  ∀ (i j d : Nat) (H' : Hp) (t : Addr), 1 ≤ d → i < j → j + d < ns.length → up ns i d = up ns j d → Same H H' → H' t = some (.tup [.int i, .int j, .int d]) → Q (.ref t) H'
theorem ok_first_same (T : Txt K mg fa fd tk) : FnOk P w K mg base CX0 1 (fa 0) (fd 0) ["dots"] (spFirst K) := by
  refine T.F_first_same.ok sc_first_same (fun vs H Q E h => ?_) (fun cdv A outer s H vs Q E hr h => ?_)
  · obtain ⟨a, ns, rfl, _⟩ := h
    rfl
  · obtain ⟨a, ns, rfl, hS, hn, q0, q1⟩ := h
    have hu1 := hu_of hr
    refine ⟨_, (pss_cons (ps_for PassesOwn.never rfl (pi_range2 (by rfl) T.m_range (pa_cons pe_int (pa_cons (pe_callB call_len_seq (by rfl) T.m_len (by decide +kernel) (pa_cons (pv 0) pa_nil)) pa_nil))) (pg_name (i := 1) sc_first_same.nd rfl (.inl rfl)) (pss_cons (ps_set (i := 2) sc_first_same.nd rfl (.inl rfl) pe_dnewK)
      (pss_one (ps_for PassesOwn.never rfl (pi_range1 (by rfl) T.m_range (pa_cons (pe_op op_sub (pe_callB call_len_seq (by rfl) T.m_len (by decide +kernel) (pa_cons (pv 0) pa_nil)) (pv 1)) pa_nil)) (pg_name (i := 3) sc_first_same.nd rfl (.inl rfl)) (pss_cons (ps_set (i := 4) sc_first_same.nd rfl (.inl rfl) (pe_op op_sub (pe_ix ix_list (pv 0) (pe_op op_add (pv 3) (pv 1)) (fun _ _ => rfl)) (pe_ix ix_list (pv 0) (pv 3) (fun _ _ => rfl))))
      (pss_cons (ps_if (pt_cmp (pc_din hu1 (pv 4) (pv 2))) (pss_one (ps_ret (pe_tup (pa_cons (pe_dget hu1 (pv 2) (pv 4) (fun _ _ => rfl)) (pa_cons (pv 3) (pa_cons (pv 1) pa_nil)))))) pss_nil)
      (pss_one (ps_dput hu1 (pv 2) (pv 4) (pv 3) rfl))))))))
      (pss_one (ps_ret pe_non))), ?_⟩
    have hlen : ((ns.map V.int).length : Int) = (ns.length : Int) := by rw [List.length_map]
    refine ⟨_, rfl, a, _, rfl, .inl hS, 1, _, rfl, ⟨by decide, by decide, by omega, by omega⟩, ?_⟩
    refine for_it (walk_range (lo := 1) (n := (((ns.map V.int).length : Int) - 1).toNat)) (fun i σ H' => Same H H' ∧ (∀ d i' j, 1 ≤ d → d < i + 1 → i' < j → j + d < ns.length → up ns i' d ≠ up ns j d) ∧ ∃ y1 y2 y3 y4, σ = [some (.ref a), y1, y2, y3, y4]) ⟨Same.refl H, fun d i' j d1 d2 => by omega, none, none, none, none, rfl⟩ (fun _ _ _ _ _ => True.intro) (fun i x σ H2 H3 hi hP hY => ?_) (fun σ H2 hP => ?_)
    · obtain ⟨sm, hap, y1, y2, y3, y4, rfl⟩ := hP
      obtain ⟨rfl, rfl⟩ := hY
      have hi2 : i + 1 < ns.length := by omega
      refine fun sd nsd => ?_
      have hS3 := (sm.trans (same_upd (o := .dK []) nsd)).seq hS
      refine ⟨_, rfl, a, _, rfl, .inl hS3, _, rfl, _, _, rfl, rfl, _, rfl, by omega, by omega, ?_⟩
      refine for_it (walk_range (lo := 0) (n := (((ns.map V.int).length : Int) - (1 + (i : Int))).toNat)) (fun c σ H' => Same H H' ∧ (∃ kvs, H' sd = some (.dK kvs) ∧ kvs.length ≤ c ∧ (∀ u v, valV kvs (Sum.inl u) = some v → ∃ k : Nat, k < c ∧ v = .int k ∧ up ns k (i + 1) = u) ∧ (∀ k, k < c → (valV kvs (Sum.inl (up ns k (i + 1)))).isSome = true)) ∧ (∀ k j, k < j → j < c → up ns k (i + 1) ≠ up ns j (i + 1)) ∧ ∃ y3 y4, σ = [some (.ref a), some (.int (1 + (i : Int))), some (.ref sd), y3, y4])
        ⟨sm.trans (same_upd nsd), ⟨[], upd_same, Nat.le_refl _, fun u v e => (nomatch e), fun k hk => absurd hk (Nat.not_lt_zero k)⟩, fun k j _ hj => absurd hj (Nat.not_lt_zero j), y3, y4, rfl⟩ (fun _ _ _ _ _ => True.intro) (fun c x σ H4 H5 hc hP hY => ?_) (fun σ H4 hP => ?_)
      · obtain ⟨s4, ⟨kvs, hsd, hkl, hk1, hk2⟩, hdis, w3, w4, rfl⟩ := hP
        obtain ⟨rfl, rfl⟩ := hY
        have hS4 := s4.seq hS
        have hc2 : c + (i + 1) < ns.length := by omega
        have a1 : atI (ns.map V.int) (0 + (c : Int) + (1 + (i : Int))) = some (.int (ns.getD (c + (i + 1)) 0)) := by
          rw [show (0 : Int) + (c : Int) + (1 + (i : Int)) = ((c + (i + 1) : Nat) : Int) by omega]
          exact atD hc2
        have a2 : atI (ns.map V.int) (0 + (c : Int)) = some (.int (ns.getD c 0)) := by
          rw [Int.zero_add]
          exact atD (by omega)
        refine ⟨_, rfl, _, rfl, _, rfl, _, _, rfl, rfl, a, _, _, _, rfl, rfl, hS4, a1, _, rfl, _, rfl, a, _, _, _, rfl, rfl, hS4, a2, _, _, rfl, rfl, ?_⟩
        have hg : DGet H5 sd (.int (up ns c (i + 1))) (valV kvs (Sum.inl (up ns c (i + 1)))) := DGet.k (k := Sum.inl (up ns c (i + 1))) hsd
        refine ⟨_, rfl, _, rfl, sd, _, rfl, hg, _, rfl, ?_⟩
        cases ev : valV kvs (Sum.inl (up ns c (i + 1))) with
        | some v =>
          rw [ev] at hg
          obtain ⟨k, hk, rfl, hup⟩ := hk1 _ _ ev
          refine iteT ⟨_, rfl, _, rfl, sd, _, rfl, hg, _, rfl, _, rfl, by show 3 ≤ sizeLine; decide, fun t nt => ?_⟩
          refine q1 k c (i + 1) _ t (by omega) hk hc2 hup (s4.trans (same_upd nt)) ?_
          rw [upd_same, show ((i + 1 : Nat) : Int) = 1 + (i : Int) by omega]
          show some (HO.tup [V.int (k : Int), V.int (0 + (c : Int)), V.int (1 + (i : Int))]) = _
          rw [Int.zero_add]
        | none =>
          have hnew : ∀ k, k < c → up ns k (i + 1) ≠ up ns c (i + 1) := fun k hk e => by
            have h := hk2 k hk
            rw [e, ev] at h
            cases h
          refine iteF ⟨_, rfl, _, rfl, _, rfl, sd, _, rfl, DPut.k (k := Sum.inl (up ns c (i + 1))) hsd (small1000 (by omega)), ?_⟩
          refine ⟨fun x o h => ?_, ⟨_, upd_same, ?_, fun u v e => ?_, fun k hk => ?_⟩, fun k j hkj hj => ?_, _, _, rfl⟩
          · by_cases z : x = sd
            · subst z
              exact absurd ((sm x o h).symm.trans nsd) (by simp)
            · rw [upd_ne z]
              exact s4 x o h
          · exact Nat.le_trans (putK_len _ _ _) (by omega)
          · rw [valV_put] at e
            by_cases z : (Sum.inl u : Key) = Sum.inl (up ns c (i + 1))
            · rw [if_pos z] at e
              refine ⟨c, by omega, ?_, (Sum.inl.inj z).symm⟩
              have e2 : V.int (0 + (c : Int)) = v := Option.some.inj e
              rw [← e2, Int.zero_add]
            · rw [if_neg z] at e
              obtain ⟨k, hk, r⟩ := hk1 u v e
              exact ⟨k, by omega, r⟩
          · rw [valV_put]
            by_cases z : k = c
            · rw [z, if_pos rfl]
              rfl
            · split
              · rfl
              · exact hk2 k (by omega)
          · by_cases z : j = c
            · rw [z]
              exact hnew k (by omega)
            · exact hdis k j hkj (by omega)
      · obtain ⟨s4, hkv, hdis, w3, w4, rfl⟩ := hP
        refine ⟨s4, fun d k j d1 d2 hkj hjd => ?_, _, _, _, _, rfl⟩
        by_cases z : d = i + 1
        · subst z
          exact hdis k j hkj (by omega)
        · exact hap d k j d1 (by omega) hkj hjd
    · obtain ⟨sm, hap, y1, y2, y3, y4, rfl⟩ := hP
      exact q0 H2 (fun d i j d1 hij hjd => hap d i j d1 (by omega) hij hjd) sm
/-! ### answers -/
/-- a Same with these fields -/
def IsSame (H : Hp) (C x : Addr) (i j d : Int) : Prop := ∃ dx, H x = some (.ins C dx [("first", .int i), ("second", .int j), ("across", .int d)])
def spSameInit (C : Addr) : Sp := fun vs H Q _ => ∃ (x dx : Addr) (i j d : Int), vs = [.ref x, .int i, .int j, .int d] ∧ H x = some (.ins C dx []) ∧ Q .non (upd H x (.ins C dx [("first", .int i), ("second", .int j), ("across", .int d)]))
theorem ok_Same_init (T : Txt K mg fa fd tk) : FnOk P w K mg base CX0 1 (fa 1) (fd 1) ["self", "first", "second", "across"] (spSameInit (fa 27)) := by
  refine T.F_Same_init.ok sc_Same_init (fun vs H Q E h => ?_) (fun cdv A outer s H vs Q E hr h => ?_)
  · obtain ⟨x, dx, i, j, d, rfl, _⟩ := h
    rfl
  · obtain ⟨x, dx, i, j, d, rfl, hx, q⟩ := h
    refine ⟨_, (pss_cons (ps_fld (pv 0) (pv 1) rfl)
      (pss_cons (ps_fld (pv 0) (pv 2) rfl)
      (pss_one (ps_fld (pv 0) (pv 3) rfl)))), ?_⟩
    refine ⟨_, rfl, _, rfl, x, _, dx, _, rfl, hx, T.in_Same.cl, T.na_Same_first, by show 0 < 1000; decide, ?_⟩
    refine ⟨_, rfl, _, rfl, x, _, dx, _, rfl, upd_same, T.in_Same.cl, T.na_Same_second, by show 1 < 1000; decide, ?_⟩
    rw [upd_upd]
    refine ⟨_, rfl, _, rfl, x, _, dx, _, rfl, upd_same, T.in_Same.cl, T.na_Same_across, by show 2 < 1000; decide, ?_⟩
    rw [upd_upd]
    exact q
end
end Lw
namespace Lw
open PySem PySem.Spec PyProof.Rows L2 AD
section
variable {P : Program} {w : World} {K : PySem.W.Frag} {mg : Str → Option Value} {base : Heap}
variable {fa : Nat → Addr} {fd : Nat → FuncData} {tk : Nat → Tok}
/-! ### the law's arrows -/
def spArrows (K : PySem.W.Frag) : Sp := fun vs H Q _ => ∃ (a : Addr) (ns : List Int), vs = [.ref a] ∧ SqL K H a (ns.map V.int) ∧ ns.length ≤ 1000 ∧
  ∀ (H' : Hp) (l : Addr) (ks : List (Addr × List Int)), Same H H' → ks.map (·.2) = arrows ns → H' l = some (.lst (ks.map fun p => V.ref p.1)) → (∀ p ∈ ks, H' p.1 = some (.tup (p.2.map V.int))) → Q (.ref l) H'
theorem ok__law_arrows (T : Txt K mg fa fd tk) : FnOk P w K mg base CX0 1 (fa 19) (fd 19) ["_law_dots"] (spArrows K) := by
  refine T.F__law_arrows.ok sc__law_arrows (fun vs H Q E h => ?_) (fun cdv A outer s H vs Q E hr h => ?_)
  · obtain ⟨a, ns, rfl, _⟩ := h
    rfl
  · obtain ⟨a, ns, rfl, hS, hn, q⟩ := h
    have hlen : ((ns.map V.int).length : Int) = (ns.length : Int) := by rw [List.length_map]
    refine ⟨_, (pss_cons (ps_set (i := 1) sc__law_arrows.nd rfl (.inl rfl) (pe_lst pa_nil))
      (pss_cons (ps_for PassesOwn.never rfl (pi_range1 (by rfl) T.m_range (pa_cons (pe_callB call_len_seq (by rfl) T.m_len (by decide +kernel) (pa_cons (pv 0) pa_nil)) pa_nil)) (pg_name (i := 2) sc__law_arrows.nd rfl (.inl rfl)) (pss_one (ps_for PassesOwn.never rfl (pi_range2 (by rfl) T.m_range (pa_cons (pe_op op_add (pv 2) pe_int) (pa_cons (pe_callB call_len_seq (by rfl) T.m_len (by decide +kernel) (pa_cons (pv 0) pa_nil)) pa_nil))) (pg_name (i := 3) sc__law_arrows.nd rfl (.inl rfl)) (pss_one (ps_expr (pe_bm PySem.F.plainAttrs_list PySem.F.slot_list_append PySem.F.type_list_append mt_append (pv 1) (pa_cons (pe_tup (pa_cons (pe_op op_sub (pv 3) (pv 2)) (pa_cons (pe_op op_sub (pe_ix ix_list (pv 0) (pv 3) (fun _ _ => rfl)) (pe_ix ix_list (pv 0) (pv 2) (fun _ _ => rfl))) pa_nil))) pa_nil)))))))
      (pss_one (ps_ret (pv 1))))), ?_⟩
    refine ⟨Nat.zero_le _, fun l nl => ?_⟩
    refine ⟨_, rfl, a, _, rfl, .inl ((same_upd nl).seq hS), _, rfl, by omega, by omega, ?_⟩
    let Kp : List (List Int) → Hp → Prop := fun xs H' => ∃ ks : List (Addr × List Int), ks.map (·.2) = xs ∧ H' l = some (.lst (ks.map fun p => V.ref p.1)) ∧ ∀ p ∈ ks, H' p.1 = some (.tup (p.2.map V.int))
    refine for_it (walk_range (lo := 0) (n := (((ns.map V.int).length : Int)).toNat)) (fun i σ H' => Same H H' ∧ (Kp ((List.range i).flatMap (arrowsTo ns ns.length)) H' ∧ ((List.range i).flatMap (arrowsTo ns ns.length)).length ≤ i * 1000) ∧ ∃ y2 y3, σ = [some (.ref a), some (.ref l), y2, y3]) ⟨same_upd nl, ⟨⟨[], rfl, upd_same, fun p hp => (nomatch hp)⟩, Nat.zero_le _⟩, none, none, rfl⟩ (fun _ _ _ _ _ => True.intro) (fun i x σ H2 H3 hi hP hY => ?_) (fun σ H2 hP => ?_)
    · obtain ⟨sm, ⟨hK, hKl⟩, y2, y3, rfl⟩ := hP
      obtain ⟨rfl, rfl⟩ := hY
      have hi2 : i < ns.length := by omega
      refine ⟨_, rfl, _, _, rfl, rfl, _, rfl, a, _, rfl, .inl (sm.seq hS), _, _, rfl, ⟨by omega, by omega, by omega, by omega⟩, ?_⟩
      refine for_it (walk_range (lo := 0 + (i : Int) + 1) (n := (((ns.map V.int).length : Int) - (0 + (i : Int) + 1)).toNat)) (fun j σ H' => Same H H' ∧ Kp ((List.range i).flatMap (arrowsTo ns ns.length) ++ (arrowsTo ns ns.length i).take j) H' ∧ ∃ y3, σ = [some (.ref a), some (.ref l), some (.int (0 + (i : Int))), y3]) ⟨sm, by rw [List.take_zero, List.append_nil]; exact hK, y3, rfl⟩ (fun _ _ _ _ _ => True.intro) (fun j x σ H4 H5 hj hP hY => ?_) (fun σ H4 hP => ?_)
      · obtain ⟨s4, ⟨ks, hk1, hk2, hk3⟩, w3, rfl⟩ := hP
        obtain ⟨rfl, rfl⟩ := hY
        have hS4 := s4.seq hS
        have hj2 : j < ns.length - (i + 1) := by omega
        have a1 : atI (ns.map V.int) (0 + (i : Int) + 1 + (j : Int)) = some (.int (ns.getD (i + 1 + j) 0)) := by
          rw [show (0 : Int) + (i : Int) + 1 + (j : Int) = ((i + 1 + j : Nat) : Int) by omega]
          exact atD (by omega)
        have a2 : atI (ns.map V.int) (0 + (i : Int)) = some (.int (ns.getD i 0)) := by
          rw [Int.zero_add]
          exact atD hi2
        refine ⟨_, rfl, .inl ⟨rfl, _, .of hk2⟩, _, rfl, _, rfl, _, _, rfl, rfl, _, rfl, _, rfl, a, _, _, _, rfl, rfl, hS4, a1, _, rfl, _, rfl, a, _, _, _, rfl, rfl, hS4, a2, _, _, rfl, rfl, by show 2 ≤ sizeLine; decide, fun t nt => ?_⟩
        have st := same_upd (o := .tup [V.int (0 + (i : Int) + 1 + (j : Int) - (0 + (i : Int))), V.int (ns.getD (i + 1 + j) 0 - ns.getD i 0)]) nt
        have hkl : ks.length = ((List.range i).flatMap (arrowsTo ns ns.length)).length + j := by
          have h := congrArg List.length hk1
          rw [List.length_map, List.length_append, List.length_take, arrowsTo_len] at h
          omega
        refine ⟨l, _, _, rfl, rfl, st _ _ hk2, ?_, fun x o h => ?_, ⟨ks ++ [(t, [((i + 1 + j : Nat) : Int) - (i : Int), ns.getD (i + 1 + j) 0 - ns.getD i 0])], ?_, ?_, fun p hp => ?_⟩, _, rfl⟩
        · rw [List.length_map, hkl, sizeLine_eq]
          have : i * 1000 ≤ 1000 * 1000 := Nat.mul_le_mul_right _ (by omega)
          omega
        · rw [upd_ne (ne_of_none h nl)]
          exact st _ _ (s4 _ _ h)
        · rw [List.map_append, hk1, List.take_add_one, arrowsTo_at hj2, ← List.append_assoc]
          rfl
        · rw [upd_same, List.map_append]
          rfl
        · have hne : p.1 ≠ l := by
            rcases List.mem_append.mp hp with h | h
            · exact ne_of (hk3 p h) hk2 (by intro z; cases z)
            · rw [List.mem_singleton.mp h]
              exact (ne_of_none hk2 nt).symm
          rw [upd_ne hne]
          rcases List.mem_append.mp hp with h | h
          · exact st _ _ (hk3 p h)
          · rw [List.mem_singleton.mp h, upd_same]
            show some (HO.tup [V.int (0 + (i : Int) + 1 + (j : Int) - (0 + (i : Int))), V.int (ns.getD (i + 1 + j) 0 - ns.getD i 0)]) = _
            rw [show (0 : Int) + (i : Int) + 1 + (j : Int) - (0 + (i : Int)) = ((i + 1 + j : Nat) : Int) - (i : Int) by omega]
            rfl
      · obtain ⟨s4, hK4, w3, rfl⟩ := hP
        rw [List.take_of_length_le (by rw [arrowsTo_len]; omega), ← flat_succ] at hK4
        refine ⟨s4, ⟨hK4, ?_⟩, _, _, rfl⟩
        rw [flat_succ, List.length_append, arrowsTo_len]
        omega
    · obtain ⟨sm, ⟨⟨ks, hk1, hk2, hk3⟩, _⟩, y2, y3, rfl⟩ := hP
      rw [show (((ns.map V.int).length : Int)).toNat = ns.length by omega] at hk1
      exact ⟨_, rfl, q _ l ks sm hk1 hk2 hk3⟩
def spApart (K : PySem.W.Frag) : Sp := fun vs H Q _ => ∃ (a : Addr) (ns : List Int), vs = [.ref a] ∧ SqL K H a (ns.map V.int) ∧ ns.length ≤ 1000 ∧ (arrows ns).length < 2000 ∧ ∀ (b : Bool) (H' : Hp), (b = true ↔ Apt ns) → Same H H' → Q (.bl b) H'
theorem ok__law_apart (T : Txt K mg fa fd tk) : FnOk P w K mg base CX0 2 (fa 20) (fd 20) ["_law_dots"] (spApart K) := by
  refine T.F__law_apart.ok sc__law_apart (fun vs H Q E h => ?_) (fun cdv A outer s H vs Q E hr h => ?_)
  · obtain ⟨a, ns, rfl, _⟩ := h
    rfl
  · obtain ⟨a, ns, rfl, hS, hn, hm, q⟩ := h
    have hu := hr.units
    refine ⟨_, (pss_cons (ps_set (i := 1) sc__law_apart.nd rfl (.inl rfl) (pe_call (ok__law_arrows T) (hr.mono (by decide)) (by rfl) T.g__law_arrows T.F__law_arrows.kp T.b__law_arrows .nil pass0 (pa_cons (pv 0) pa_nil)))
      (pss_one (ps_ret (pe_cmpR op_eq (pe_lenSetT rfl (by rfl) T.m_len (by rfl) T.m_set hu (pv 1)) (pe_callB call_len_seq (by rfl) T.m_len (by decide +kernel) (pa_cons (pv 1) pa_nil)) (nomark _))))), ?_⟩
    refine ⟨_, rfl, a, ns, rfl, hS, hn, fun H1 l ks s1 e hl hk => ?_⟩
    have hkl : ks.length = (arrows ns).length := by
      have h := congrArg List.length e
      rw [List.length_map] at h
      exact h
    refine ⟨_, rfl, l, ks, rfl, .of hl, fun p hp => .of (hk p hp), by omega, fun n hn => ?_⟩
    rw [e, arrows_apt] at hn
    refine ⟨_, rfl, l, _, rfl, .inl (.of hl), rfl, q _ _ ?_ s1⟩
    rw [dec_vint, List.length_map, ← hn]
    omega
/-- so many rows in some turn: a new list -/
def spOrder (K : PySem.W.Frag) : Sp := fun vs H Q _ => ∃ (a : Addr) (ns : List Int) (k m : Nat), vs = [.ref a, .int k, .int m] ∧ SqL K H a (ns.map V.int) ∧ Small ns ∧ k ≤ 1000 ∧ m ≤ 1000 ∧
  ∀ (H' : Hp) (l : Addr) (os : List Nat), os.Perm (List.range m) → Same H H' → H l = none → H' l = some (.lst (nats os)) → Q (.ref l) H'
theorem ok__law_order (T : Txt K mg fa fd tk) : FnOk P w K mg base CX0 2 (fa 21) (fd 21) ["_law_script", "_law_by", "_law_many"] (spOrder K) := by
  refine T.F__law_order.ok sc__law_order (fun vs H Q E h => ?_) (fun cdv A outer s H vs Q E hr h => ?_)
  · obtain ⟨a, ns, k, m, rfl, _⟩ := h
    rfl
  · obtain ⟨a, ns, k, m, rfl, hS, hsm, hk, hm, q⟩ := h
    have hu := hr.units
    refine ⟨_, (C8.pss_cut (ps_set (i := 3) sc__law_order.nd rfl (.inl rfl) (pe_ifExp (pt_cmpR (op_neL hu) (pv 0) (pe_lst pa_nil) (nomark _)) (pe_slice sl_list (pv 0) po_none (po_some pe_int)) (pe_lst (pa_cons pe_int pa_nil))))
      (pss_cons (ps_set (i := 4) sc__law_order.nd rfl (.inl rfl) (pe_lst pa_nil))
      (pss_cons (ps_for PassesOwn.never rfl (pi_range1 (by rfl) T.m_range (pa_cons (pv 2) pa_nil)) (pg_name (i := 5) sc__law_order.nd rfl (.inl rfl)) (pss_cons (ps_set (i := 6) sc__law_order.nd rfl (.inl rfl) (pe_call (ok__law_number T) (hr.mono (by decide)) (by rfl) T.g__law_number T.F__law_number.kp T.b__law_number .nil pass0 (pa_cons (pe_ix ix_list (pv 3) (pe_op op_mod (pe_op op_add (pv 5) (pv 1)) (pe_callB call_len_seq (by rfl) T.m_len (by decide +kernel) (pa_cons (pv 3) pa_nil))) (fun _ _ => rfl)) (pa_cons (pe_op op_add (pv 5) (pv 1)) (pa_cons (pv 2) pa_nil)))))
      (pss_one (ps_expr (pe_bm PySem.F.plainAttrs_list PySem.F.slot_list_insert PySem.F.type_list_insert mt_insert (pv 4) (pa_cons (pe_op op_mod (pv 6) (pe_op op_add (pv 5) pe_int)) (pa_cons (pv 5) pa_nil)))))))
      (pss_one (ps_ret (pv 4)))))), ?_⟩
    refine ⟨fun σ' H' => ∃ c, Same H H' ∧ H' c = some (.lst ((cellsOf ns).map V.int)) ∧ σ' = [some (.ref a), some (.int k), some (.int m), some (.ref c), none, none, none], ?_, fun σ' H1 hM => ?_⟩
    · refine ⟨_, rfl, Nat.zero_le _, fun e ne => ?_⟩
      have s0 := same_upd (o := .lst []) ne
      refine ⟨a, e, ns, [], rfl, rfl, s0.seq hS, .of upd_same, _, rfl, ite2 (fun e1 => ?_) (fun e1 => ?_)⟩
      · have e2 : ns ≠ [] := fun z => by
          rw [z] at e1
          cases e1
        refine ⟨_, rfl, 63, rfl, a, _, rfl, s0.seq hS, fun c nc => ⟨c, s0.trans (same_upd nc), ?_, rfl⟩⟩
        rw [upd_same, show (63 : Int) = ((63 : Nat) : Int) from rfl, cutV_to, List.take_of_length_le hsm.1]
        unfold cellsOf
        rw [if_neg e2]
      · have e2 : ns = [] := by
          by_cases z : ns = []
          · exact z
          · refine absurd ?_ e1
            rw [decide_eq_false z]
            rfl
        refine ⟨by show 1 ≤ sizeLine; decide, fun c nc => ⟨c, s0.trans (same_upd nc), ?_, rfl⟩⟩
        rw [upd_same]
        unfold cellsOf
        rw [if_pos e2]
        rfl
    obtain ⟨c, s1, hc, rfl⟩ := hM
    obtain ⟨hl1, hl2⟩ := cells_len hsm
    have el : (((cellsOf ns).map V.int).length : Int) = ((cellsOf ns).length : Int) := by rw [List.length_map]
    refine ⟨Nat.zero_le _, fun l nl => ?_⟩
    have hcl : l ≠ c := (ne_of_none hc nl).symm
    refine ⟨_, rfl, _, rfl, by omega, by omega, ?_⟩
    refine for_it (walk_range (lo := 0) (n := ((m : Int)).toNat)) (fun i σ H' => Same H H' ∧ H' c = some (.lst ((cellsOf ns).map V.int)) ∧ (∃ os : List Nat, os.Perm (List.range i) ∧ H' l = some (.lst (nats os))) ∧ ∃ y5 y6, σ = [some (.ref a), some (.int k), some (.int m), some (.ref c), some (.ref l), y5, y6]) ⟨s1.trans (same_upd nl), same_upd nl _ _ hc, ⟨[], List.Perm.refl _, upd_same⟩, none, none, rfl⟩ (fun _ _ _ _ _ => True.intro) (fun i x σ H2 H3 hi hP hY => ?_) (fun σ H2 hP => ?_)
    · obtain ⟨sm, hc2, ⟨os, hp, hl⟩, y5, y6, rfl⟩ := hP
      obtain ⟨rfl, rfl⟩ := hY
      have hq : SqL K H3 c ((cellsOf ns).map V.int) := .of hc2
      obtain ⟨y, hy, ey⟩ := atI_ints (ns := cellsOf ns) (z := (0 + (i : Int) + (k : Int)) % ((cellsOf ns).length : Int)) (Int.emod_nonneg _ (by omega)) (Int.emod_lt_of_pos _ (by omega))
      refine ⟨_, rfl, _, rfl, _, rfl, _, _, rfl, rfl, _, rfl, c, _, rfl, .inl hq, _, _, rfl, rfl, ?_, c, _, _, _, rfl, rfl, hq, ?_, _, rfl, _, rfl, _, _, rfl, rfl, _, rfl, y, 0 + (i : Int) + (k : Int), m, 1048576, rfl, by omega, by omega, cells_bits hsm y hy, by decide, by decide, fun n => ?_⟩
      · show (0 : Int) < (((cellsOf ns).map V.int).length : Int)
        omega
      · show atI ((cellsOf ns).map V.int) ((0 + (i : Int) + (k : Int)) % (((cellsOf ns).map V.int).length : Int)) = _
        rw [el]
        exact ey
      have n0 := Int.emod_nonneg n (show (0 : Int) + (i : Int) + 1 ≠ 0 by omega)
      have n1 := Int.emod_lt_of_pos n (show (0 : Int) < (0 : Int) + (i : Int) + 1 by omega)
      have hol := hp.length_eq
      rw [List.length_range] at hol
      refine ⟨_, rfl, .inl ⟨rfl, _, .of hl⟩, _, rfl, _, rfl, _, _, rfl, rfl, _, _, rfl, rfl, (show (0 : Int) < (0 : Int) + (i : Int) + 1 by omega), _, rfl, l, _, _, _, rfl, rfl, hl, ?_, n0, ?_, ?_⟩
      · unfold nats
        rw [List.length_map]
        exact small1000 (by omega)
      · show n % ((0 : Int) + (i : Int) + 1) < 2 ^ 63
        omega
      · refine ⟨fun x o h => ?_, ?_, ⟨_, range_snoc_perm (i := (n % ((0 : Int) + (i : Int) + 1)).toNat) hp, ?_⟩, _, _, rfl⟩
        · by_cases z : x = l
          · subst z
            exact absurd ((s1 x o h).symm.trans nl) (by simp)
          · rw [upd_ne z]
            exact sm x o h
        · rw [upd_ne hcl.symm]
          exact hc2
        · rw [upd_same]
          unfold nats
          rw [List.map_append, List.map_append, List.map_take, List.map_drop]
          show some (HO.lst (_ ++ [V.int (0 + (i : Int))] ++ _)) = _
          rw [Int.zero_add]
          rfl
    · obtain ⟨sm, hc2, ⟨os, hp, hl⟩, y5, y6, rfl⟩ := hP
      rw [Int.toNat_natCast] at hp
      have nl0 : H l = none := s1.free nl
      exact ⟨_, rfl, q _ l os hp sm nl0 hl⟩
end
end Lw
namespace Lw
open PySem PySem.Spec PyProof.Rows L2 AD
section
variable {P : Program} {w : World} {K : PySem.W.Frag} {mg : Str → Option Value} {base : Heap}
variable {fa : Nat → Addr} {fd : Nat → FuncData} {tk : Nat → Tok}
/-! ### asked_dots, judged -/
theorem nats_len (l : List Nat) : (nats l).length = l.length := by unfold nats; rw [List.length_map]
def zof (l : List Nat) : List Int := l.map fun n : Nat => (n : Int)
theorem zof_len (l : List Nat) : (zof l).length = l.length := by unfold zof; rw [List.length_map]
/-- rows of a board, each once -/
structure Dots (os : List Nat) : Prop where
  pm : os.Perm (List.range os.length)
  lo : 1 ≤ os.length
  hi : os.length ≤ 60
def spAskedDots : Sp := fun vs H Q _ => ∃ (a : Addr) (os : List Nat), vs = [.ref a] ∧ H a = some (.lst (nats os)) ∧ Dots os ∧ ∀ H', Same H H' → Q .non H'
theorem ok_asked_dots (T : Txt K mg fa fd tk) : FnOk P w K mg base CX0 2 (fa 8) (fd 8) ["dots"] spAskedDots := by
  refine T.F_asked_dots.ok sc_asked_dots (fun vs H Q E h => ?_) (fun cdv A outer s H vs Q E hr h => ?_)
  · obtain ⟨a, os, rfl, _⟩ := h
    rfl
  · obtain ⟨a, os, rfl, ha, D, q⟩ := h
    have hu := hr.units
    have d1 := D.lo
    have d2 := D.hi
    refine ⟨_, (pss_cons (ps_if (PW.pt (pw_or (pt_not (pt_val (pe_callB call_isi (by rfl) T.m_isinstance (by decide +kernel) (pa_cons (pv 0) (pa_cons (pe_bltn (v := .ty "list") (u := .type "list") (by rfl) T.m_list (by decide +kernel) rfl) pa_nil))))) (pw_or (pt_not (pt_chain op_le op_le pe_int (pe_callB call_len_seq (by rfl) T.m_len (by decide +kernel) (pa_cons (pv 0) pa_nil)) (pe_glob (v := .int 60) rfl T.g_LONGEST ⟨_, rfl⟩))) (pw_or1 (pt_not (pt_val (pe_callB (cr_all rfl) (by rfl) T.m_all (by decide +kernel) (pa_cons (pe_lc (own := [("row", 1)]) (g := gName 1) (tt := tYes) (by rfl) sc_asked_dots.nd (pi_list (pv 0)) (blkOk_by (own := [("row", 1)]) (N := ["dots", "row"]) (sc := (defScope s_asked_dots)) (by decide +kernel)) (fun _ _ _ _ _ => (pg_name (i := 1) sc_asked_dots.nd rfl (Or.inl rfl))) (fun _ _ _ _ _ => pts_nil) (fun _ _ _ _ _ => (pe_call (ok_is_whole T) (hr.mono (by decide)) (by rfl) T.g_is_whole T.F_is_whole.kp T.b_is_whole .nil pass0 (pa_cons (pv 1) pa_nil)))) pa_nil)))))))) (pss_one ps_never) pss_nil)
      (pss_one (ps_if (pt_cmpR (op_neL hu) (pe_callB cr_sorted (by rfl) T.m_sorted (by decide +kernel) (pa_cons (pv 0) pa_nil)) (pe_listRg rfl (by rfl) T.m_list (prg_1 (by rfl) T.m_range (pe_callB call_len_seq (by rfl) T.m_len (by decide +kernel) (pa_cons (pv 0) pa_nil)))) (nomark _)) (pss_one ps_never) pss_nil))), ?_⟩
    refine ⟨_, rfl, _, _, _, _, true, rfl, .ty _, .base (.lst ha), kit_ty (by decide +kernel), true, rfl, iteF ?_⟩
    refine ⟨_, rfl, a, _, rfl, .inl (.of ha), _, _, rfl, rfl, _, rfl, ?_⟩
    rw [nats_len, decide_eq_true (show (1 : Int) ≤ (os.length : Int) by omega)]
    refine iteT ⟨_, _, rfl, rfl, _, rfl, ?_⟩
    rw [decide_eq_true (show (os.length : Int) ≤ 60 by omega)]
    refine iteF ?_
    refine ⟨_, rfl, a, rfl, ⟨_, .of ha⟩, fun D1 nD => ?_⟩
    have neD : a ≠ D1 := ne_of_none ha nD
    refine lc_it (walk_list (xs := nats os)) (fun i H' => Same H H' ∧ H' D1 = some (.lst ((List.replicate i true).map V.bl))) ⟨same_upd nD, upd_same⟩ (fun i H' _ hP => .of (hP.1 _ _ ha)) (fun i x H4 H5 hi hP hY => ?_) (fun H4 hP => ?_)
    · obtain ⟨sm, hD⟩ := hP
      obtain ⟨rfl, hx⟩ := hY
      obtain ⟨n, hn, rfl⟩ := nats_at hx
      rw [nats_len] at hi
      refine ⟨rfl, ?_⟩
      refine ⟨_, rfl, _, rfl, .inl ⟨_, rfl, _, hD, ?_, fun x o h => ?_, ?_⟩⟩
      · rw [List.length_map, List.length_replicate]
        exact small1000 (by omega)
      · rw [upd_ne (ne_of_none h nD)]
        exact sm x o h
      · rw [upd_same, List.replicate_succ', List.map_append]
        rfl
    · obtain ⟨sm, hD⟩ := hP
      refine ⟨D1, _, rfl, .of hD, _, rfl, ?_⟩
      rw [show (List.replicate (nats os).length true).all id = true by simp]
      refine iteF ?_
      have ha4 := sm _ _ ha
      refine ⟨_, rfl, a, zof os, rfl, .of (by rw [ha4, nats_ints]; rfl), by rw [zof_len]; omega, fun ns' p pm so np => ?_⟩
      have s1 := same_upd (o := .lst (ns'.map V.int)) np
      have e1 : ns' = zof (List.range os.length) := sorted_range pm D.pm so
      refine ⟨_, rfl, a, _, rfl, .inl (.of (s1 _ _ ha4)), _, rfl, RgOk.of_le (by omega) (by rw [nats_len]; omega) (by omega) (by omega), fun p2 np2 => ?_⟩
      refine ⟨p, p2, ns', zof (List.range os.length), rfl, rfl, .of (same_upd np2 _ _ upd_same), .of ?_, _, rfl, ?_⟩
      · rw [upd_same, nats_len, rgV_nats, nats_ints]
        rfl
      rw [decide_eq_true e1]
      exact iteF (q _ ((sm.trans s1).trans (same_upd np2)))
def spJudged (CA CS : Addr) : Sp := fun vs H Q _ => ∃ (a : Addr) (os : List Nat), vs = [.ref a] ∧ H a = some (.lst (nats os)) ∧ Dots os ∧
  (∀ (H' : Hp) (x dx : Addr), Apt (zof os) → Same H H' → H' x = some (.ins CA dx []) → Q (.ref x) H') ∧
  ∀ (i j d : Nat) (H' : Hp) (x : Addr), 1 ≤ d → i < j → j + d < os.length → up (zof os) i d = up (zof os) j d → Same H H' → IsSame H' CS x i j d → Q (.ref x) H'
theorem same_made {H : Hp} {x dx : Addr} {o : HO} (nx : H x = none) (nd : H dx = none) : Same H (upd (upd H dx (.own x)) x o) := fun b u e => by
  rw [upd_ne (ne_of_none e nx), upd_ne (ne_of_none e nd)]
  exact e
theorem ok_judged (T : Txt K mg fa fd tk) : FnOk P w K mg base CX0 3 (fa 9) (fd 9) ["dots"] (spJudged (fa 26) (fa 27)) := by
  refine T.F_judged.ok sc_judged (fun vs H Q E h => ?_) (fun cdv A outer s H vs Q E hr h => ?_)
  · obtain ⟨a, os, rfl, _⟩ := h
    rfl
  · obtain ⟨a, os, rfl, ha, D, q0, q1⟩ := h
    have d2 := D.hi
    refine ⟨_, (pss_cons (ps_expr (pe_call (ok_asked_dots T) (hr.mono (by decide)) (by rfl) T.g_asked_dots T.F_asked_dots.kp T.b_asked_dots .nil pass0 (pa_cons (pv 0) pa_nil)))
      (pss_cons (ps_set (i := 1) sc_judged.nd rfl (.inl rfl) (pe_call (ok_first_same T) (hr.mono (by decide)) (by rfl) T.g_first_same T.F_first_same.kp T.b_first_same .nil pass0 (pa_cons (pv 0) pa_nil)))
      (pss_one (ps_ret (pe_ifExp (pt_cmpR op_isN (pv 1) pe_non (nomark _)) (pe_makeP T.mk_Apart (by rfl) T.g_Apart) (pe_make T.mk_Same (ok_Same_init T) (hr.mono (by decide)) (by rfl) T.g_Same T.b_Same_init .nil pass0 (pa_cons (pe_ix ix_tup (pv 1) pe_int (fun _ _ => rfl)) (pa_cons (pe_ix ix_tup (pv 1) pe_int (fun _ _ => rfl)) (pa_cons (pe_ix ix_tup (pv 1) pe_int (fun _ _ => rfl)) pa_nil))))))))), ?_⟩
    refine ⟨_, rfl, a, os, rfl, ha, D, fun H1 s1 => ?_⟩
    have ha1 := s1 _ _ ha
    refine ⟨_, rfl, a, zof os, rfl, .of (by rw [ha1, nats_ints]; rfl), by rw [zof_len]; omega, fun H2 ap s2 => ?_, fun i j d H2 t h1 h2 h3 e s2 ht => ?_⟩
    · refine ⟨_, rfl, rfl, _, rfl, ?_⟩
      refine iteT fun x dx nx nd ne => ?_
      exact q0 _ x dx ap ((s1.trans s2).trans (same_made nx nd)) upd_same
    · rw [zof_len] at h3
      refine ⟨_, rfl, rfl, _, rfl, ?_⟩
      refine iteF ?_
      have hq : SqT K H2 t [.int i, .int j, .int d] := .of ht
      refine ⟨_, rfl, t, _, _, _, rfl, rfl, hq, atI_nat (j := 0) rfl, _, rfl, t, _, _, _, rfl, rfl, hq, atI_nat (j := 1) rfl, _, rfl, t, _, _, _, rfl, rfl, hq, atI_nat (j := 2) rfl, fun x dx nx nd ne => ⟨x, dx, i, j, d, rfl, upd_same, rfl, ?_⟩⟩
      rw [upd_upd]
      exact q1 i j d _ x h1 h2 h3 e ((s1.trans s2).trans (same_made nx nd)) ⟨dx, upd_same⟩
end
end Lw
namespace Lw
open PySem PySem.Spec PyProof.Rows L2 AD
section
variable {P : Program} {w : World} {K : PySem.W.Frag} {mg : Str → Option Value} {base : Heap}
variable {fa : Nat → Addr} {fd : Nat → FuncData} {tk : Nat → Tok}
/-! ### dots, more -/
theorem deq {b c : Bool} {p : Prop} (h1 : b = true ↔ p) (h2 : c = true ↔ p) : b = c := by
  rw [Bool.eq_iff_iff, h1, h2]
theorem bt_of {b : Bool} {p : Prop} (h : b = true ↔ p) (hp : p) : b = true := h.mpr hp
theorem bf_of {b : Bool} {p : Prop} (h : b = true ↔ p) (hp : ¬ p) : b = false := by
  cases b with
  | false => rfl
  | true => exact absurd (h.mp rfl) hp
theorem Dots.tri {os : List Nat} (D : Dots os) : (arrows (zof os)).length < 2000 := by
  rw [arrows_len, zof_len]
  exact tri60 _ D.hi
theorem Dots.swap {os : List Nat} (D : Dots os) {i j : Nat} (hi : i < os.length) (hj : j < os.length) : Dots ((os.set i os[j]).set j os[i]) := by
  have h := List.set_set_perm (as := os) hi hj
  have hl : ((os.set i os[j]).set j os[i]).length = os.length := by rw [List.length_set, List.length_set]
  exact ⟨by rw [hl]; exact h.trans D.pm, by rw [hl]; exact D.lo, by rw [hl]; exact D.hi⟩
theorem nats_set (l : List Nat) (i n : Nat) : (nats l).set i (V.int (n : Int)) = nats (l.set i n) := by
  unfold nats
  rw [List.map_set]
theorem nats_get {l : List Nat} {i : Nat} (h : i < l.length) : (nats l)[i]? = some (V.int ((l[i] : Nat) : Int)) := by
  unfold nats
  rw [List.getElem?_map, List.getElem?_eq_getElem h]
  rfl
theorem ixN_nat {n i : Nat} (h : i < n) : ixN n (i : Int) = some i := by
  unfold ixN
  rw [if_pos (by omega), if_pos (by omega), Int.toNat_natCast]
theorem ixN_last {n : Nat} (h : 1 ≤ n) : ixN n (-1) = some (n - 1) := by
  unfold ixN
  rw [if_neg (by decide), if_pos (by omega), show (-1 + (n : Int)).toNat = n - 1 by omega]
theorem nats_last {l : List Nat} (h : 1 ≤ l.length) : atI (nats l) (-1) = some (V.int ((l[l.length - 1] : Nat) : Int)) := by
  unfold atI
  rw [nats_len, ixN_last h]
  exact nats_get (by omega)
/-- a list that holds dots -/
def DotsAt (H : Hp) (v : V) : Prop := ∃ (l : Addr) (os : List Nat), v = .ref l ∧ H l = some (.lst (nats os)) ∧ Dots os
theorem DotsAt.same {H H' : Hp} {v : V} (s : Same H H') (h : DotsAt H v) : DotsAt H' v := by
  obtain ⟨l, os, e, hl, r⟩ := h
  exact ⟨l, os, e, s _ _ hl, r⟩
theorem DotsAt.mk {H : Hp} {l : Addr} {os : List Nat} (hl : H l = some (.lst (nats os))) (D : Dots os) : DotsAt H (.ref l) := ⟨l, os, rfl, hl, D⟩
theorem rows_dots {p g : Nat} (R : Root p g) (b : Int) (hp : p ≤ 61) : Dots (rowsN p g b) := by
  have lo := R.good.lo
  have hl : (rowsN p g b).length = p - 1 := by unfold rowsN; rw [List.length_map, List.length_range]
  exact ⟨by rw [hl]; exact R.rows_perm b, by omega, by omega⟩
theorem rows_nats {p g : Nat} (R : Root p g) (b : Int) : (rowsI p g b).map V.int = nats (rowsN p g b) := by
  rw [nats_ints, R.rowsI_eq]
theorem rows_zof {p g : Nat} (R : Root p g) (b : Int) : zof (rowsN p g b) = rowsI p g b := (R.rowsI_eq b).symm
theorem range_dots {n : Nat} (h1 : 1 ≤ n) (h2 : n ≤ 60) : Dots (List.range n) := by
  have hl : (List.range n).length = n := List.length_range
  exact ⟨by rw [hl], by omega, by omega⟩
theorem perm_dots {os : List Nat} {n : Nat} (h : os.Perm (List.range n)) (h1 : 1 ≤ n) (h2 : n ≤ 60) : Dots os := by
  have hl : os.length = n := by rw [h.length_eq, List.length_range]
  exact ⟨by rw [hl]; exact h, by omega, by omega⟩
theorem atI_nats {l : List Nat} {i : Nat} (h : i < l.length) : atI (nats l) (i : Int) = some (V.int ((l[i] : Nat) : Int)) := atI_nat (nats_get h)
theorem cutV_last (xs : List V) (x : V) : cutV (xs ++ [x]) none (some (-1)) = xs := by
  unfold cutV
  rw [HT.sIx_none, List.drop_zero, Nat.sub_zero]
  have e : HT.sIx (xs ++ [x]).length (xs ++ [x]).length (some (-1)) = xs.length := by
    show (if (-1 : Int) < 0 then (-1 + ((xs ++ [x]).length : Int)).toNat else min (-1 : Int).toNat (xs ++ [x]).length) = _
    rw [if_pos (by decide), List.length_append]
    show (-1 + ((xs.length + 1 : Nat) : Int)).toNat = _
    omega
  rw [e, List.take_left]
end
end Lw
namespace Lw
open PySem PySem.Spec PyProof.Rows L2 AD
section
variable {P : Program} {w : World} {K : PySem.W.Frag} {mg : Str → Option Value} {base : Heap}
variable {fa : Nat → Addr} {fd : Nat → FuncData} {tk : Nat → Tok}
/-! ### turned, without_corner -/
section
variable {X : Cx} {o e : Expr} {es : List Expr} {to : TE} {t : TA} {name : Str} {apos cpos : Pos} {T id : String} {r : V → List V → Hp → VK → Prop}
theorem pe_bmK {K : PySem.W.Frag} (hK : X.K = K) (pa : PlainAttrs T) (slot : Slot T name id) (hty : typeOf (.builtin id) = pure (.type "method_descriptor")) (hm : MtR X id r) (ho : PE X o to) (ha : PA X (e :: es) t)
    (hbase : attributeBase o name X.env (eval o X.env) = eval o X.env := by rfl)
    (hfew : ((backTo cpos (starEach (e :: es) X.env)).all (fun x => !x.1) && (backToKw cpos (keywordEach [] X.env)).all (fun x => x.1.isSome)
      && decide ((e :: es).length + ([] : List Keyword).length + (if ([] : List Keyword).isEmpty then 0 else 1) < 30)) = true := by rfl)
    (hline : (apos.endLine == cpos.line) = true := by rfl) (hs : starEach (e :: es) X.env = (false, eval e X.env) :: starEach es X.env := by rfl) (hplain : (backTo cpos (starEach es X.env)).any (·.1) = false := by rfl) :
    PE X (.Call (.Attribute o name apos) (e :: es) [] cpos) (tBM K T r to t) := by
  subst hK
  exact pe_bm pa slot hty hm ho ha hbase hfew hline hs hplain
end
theorem Dots.brd {os : List Nat} (D : Dots os) : Brd os.length os := ⟨rfl, D.pm⟩
theorem brd_dots {n : Nat} {os : List Nat} (B : Brd n os) (h1 : 1 ≤ n) (h2 : n ≤ 60) : Dots os := by
  have hl := B.len
  exact ⟨by rw [hl]; exact B.pm, by omega, by omega⟩
theorem nats_flat (l : List Nat) : (nats l).all flatV = true := by
  unfold nats
  rw [List.all_eq_true]
  intro x hx
  obtain ⟨n, _, rfl⟩ := List.mem_map.mp hx
  rfl
theorem nats_snoc (l : List Nat) (n : Nat) : nats l ++ [V.int (n : Int)] = nats (l ++ [n]) := by
  unfold nats
  rw [List.map_append]
  rfl
theorem nats_rev (l : List Nat) : (nats l).reverse = nats l.reverse := by
  unfold nats
  rw [List.map_reverse]
theorem inv_at {n i : Nat} {l : List Nat} (h : i < n) : (inv n l)[i]? = some (l.idxOf i) := by
  unfold inv
  rw [List.getElem?_map, List.getElem?_range h]
  rfl
def spTurned : Sp := fun vs H Q _ => ∃ (a : Addr) (l : List Nat) (w : Nat), vs = [.ref a, .int w] ∧ H a = some (.lst (nats l)) ∧ Dots l ∧ w < 8 ∧ ∀ (H' : Hp) (b : Addr), Same H H' → H b = none → H' b = some (.lst (nats (t2 l.length w l))) → Q (.ref b) H'
theorem ok_turned (T : Txt K mg fa fd tk) : FnOk P w K mg base CX0 3 (fa 10) (fd 10) ["dots", "way"] spTurned := by
  refine T.F_turned.ok sc_turned (fun vs H Q E h => ?_) (fun cdv A outer s H vs Q E hr h => ?_)
  · obtain ⟨a, l, w, rfl, _⟩ := h
    rfl
  · obtain ⟨a, l, w, rfl, ha, D, hw, q⟩ := h
    have d2 := D.hi
    have B := D.brd
    refine ⟨_, (pss_cons (ps_expr (pe_call (ok_asked_dots T) (hr.mono (by decide)) (by rfl) T.g_asked_dots T.F_asked_dots.kp T.b_asked_dots .nil pass0 (pa_cons (pv 0) pa_nil)))
      (pss_cons (ps_if (PW.pt (pw_or (pt_not (pt_val (pe_call (ok_is_whole T) (hr.mono (by decide)) (by rfl) T.g_is_whole T.F_is_whole.kp T.b_is_whole .nil pass0 (pa_cons (pv 1) pa_nil)))) (pw_or1 (pt_not (pt_chain op_le op_le pe_int (pv 1) pe_int))))) (pss_one ps_never) pss_nil)
      (C8.pss_cut (ps_set (i := 2) sc_turned.nd rfl (.inl rfl) (pe_ifExp (pt_cmpR op_ge (pv 1) pe_int (nomark _)) (pe_lc (own := [("row", 3)]) (g := gName 3) (tt := tYes) (by rfl) sc_turned.nd (pi_range1 (by rfl) T.m_range (pa_cons (pe_callB call_len_seq (by rfl) T.m_len (by decide +kernel) (pa_cons (pv 0) pa_nil)) pa_nil)) (blkOk_by (own := [("row", 3)]) (N := ["dots", "way", "found", "row"]) (sc := (defScope s_turned)) (by decide +kernel)) (fun _ _ _ _ _ => (pg_name (i := 3) sc_turned.nd rfl (Or.inl rfl))) (fun _ _ _ _ _ => pts_nil) (fun _ _ _ _ _ => (pe_bmK (K := K) (r := rIndex K) rfl PySem.F.plainAttrs_list PySem.F.slot_list_index PySem.F.type_list_index mt_index (pv 0) (pa_cons (pv 3) pa_nil)))) (pe_callTy call_list_of (by rfl) T.m_list (by decide +kernel) (pa_cons (pv 0) pa_nil))))
      (C8.pss_cut (ps_if (pt_cmpR op_eq (pe_op op_mod (pv 1) pe_int) pe_int (nomark _)) (pss_one (ps_set (i := 2) sc_turned.nd rfl (.inl rfl) (pe_revL (pv 2)))) pss_nil)
      (C8.pss_cut (ps_if (pt_cmpR op_eq (pe_op op_mod (pe_op op_fdiv (pv 1) pe_int) pe_int) pe_int (nomark _)) (pss_one (ps_setLc (i := 2) (own := [("row", 3)]) (g := gName 3) (tt := tYes) (by rfl) sc_turned.nd rfl rfl (sw_true rfl rfl rfl (by decide +kernel)) (pi_list (pv 2)) (blkOk_by (own := [("row", 3)]) (N := ["dots", "way", "found", "row"]) (sc := (defScope s_turned)) (by decide +kernel)) (fun _ _ _ _ _ => (pg_name (i := 3) sc_turned.nd rfl (Or.inl rfl))) (fun _ _ _ _ _ => pts_nil) (fun _ _ _ _ _ => (pe_op op_sub (pe_op op_sub (pe_callB (id := "len") (r := rLenS0 K) call_len_seq (by rfl) T.m_len (by decide +kernel) (pa_cons (pv 0) pa_nil)) pe_int) (pv 3))))) pss_nil)
      (pss_one (ps_ret (pv 2)))))))), ?_⟩
    refine ⟨_, rfl, a, l, rfl, ha, D, fun H1 s1 => ?_⟩
    have ha1 := s1 _ _ ha
    refine ⟨_, rfl, _, rfl, .inl ⟨_, rfl, _, rfl, iteF ?_⟩⟩
    refine ⟨_, rfl, _, _, rfl, rfl, _, rfl, ?_⟩
    rw [decide_eq_true (show (0 : Int) ≤ (w : Int) by omega)]
    refine iteT ⟨_, _, rfl, rfl, _, rfl, ?_⟩
    rw [decide_eq_true (show (w : Int) ≤ 7 by omega)]
    refine iteF ?_
    -- found
    refine ⟨fun σ' H' => ∃ b, Same H H' ∧ H b = none ∧ H' b = some (.lst (nats (t0 l.length w l))) ∧ σ' = [some (.ref a), some (.int (w : Int)), some (.ref b), none], ?_, fun σ' H2 hM => ?_⟩
    · refine ⟨_, rfl, _, _, rfl, rfl, _, rfl, ite2 (fun e => ?_) (fun e => ?_)⟩
      · have e4 : 4 ≤ w := by have h := dT e; omega
        refine ⟨_, rfl, a, _, rfl, .inl (.of ha1), _, rfl, by omega, by rw [nats_len]; omega, fun D1 nD => ?_⟩
        refine lc_it (walk_range (lo := 0) (n := (((nats l).length : Nat) : Int).toNat)) (fun i H' => Same H1 H' ∧ H' D1 = some (.lst (nats ((inv l.length l).take i)))) ⟨same_upd nD, upd_same⟩ (fun _ _ _ _ => True.intro) (fun i x H4 H5 hi hP hY => ?_) (fun H4 hP => ?_)
        · obtain ⟨sm, hD⟩ := hP
          obtain ⟨rfl, rfl⟩ := hY
          have hi2 : i < l.length := by rw [nats_len] at hi; omega
          have ha4 := sm _ _ ha1
          obtain ⟨c, hc⟩ := B.onto hi2
          have hix := B.idx hc
          refine ⟨rfl, ?_⟩
          refine ⟨_, rfl, .inl ⟨rfl, _, .of ha4⟩, _, rfl, a, nats l, .int (0 + (i : Int)), l.idxOf i, .int (i : Int), rfl, rfl, .of ha4, rfl, nats_flat l, ?_, ?_, fun m z' hm hz => ?_, _, hD, ?_, fun x o h => ?_, ?_⟩
          · rw [hix]
            unfold nats
            rw [List.getElem?_map, hc]
            rfl
          · show ((i : Int) == 0 + (i : Int)) = true
            rw [Int.zero_add]
            exact beq_self_eq_true _
          · unfold nats at hz
            rw [List.getElem?_map] at hz
            cases ez : l[m]? with
            | none => rw [ez] at hz; cases hz
            | some v =>
              rw [ez] at hz
              have e9 : V.int ((v : Nat) : Int) = z' := Option.some.inj hz
              rw [← e9]
              show (((v : Nat) : Int) == 0 + (i : Int)) = false
              refine beq_eq_false_iff_ne.mpr fun y => ?_
              have e8 : v = i := by omega
              rw [e8] at ez
              have := B.inj ez hc
              omega
          · rw [nats_len, List.length_take]
            exact small1000 (by omega)
          · rw [upd_ne (ne_of_none h nD)]
            exact sm x o h
          · rw [upd_same, nats_snoc, List.take_add_one, inv_at hi2]
            rfl
        · obtain ⟨sm, hD⟩ := hP
          refine ⟨D1, s1.trans sm, s1.free nD, ?_, rfl⟩
          rw [hD]
          unfold t0
          rw [if_pos e4, List.take_of_length_le (by unfold inv; rw [List.length_map, List.length_range, nats_len]; omega)]
      · have e4 : ¬ 4 ≤ w := by have h := dF e; omega
        refine ⟨_, rfl, a, _, rfl, .inl (.of ha1), fun b nb => ⟨b, s1.trans (same_upd nb), s1.free nb, ?_, rfl⟩⟩
        rw [upd_same]
        unfold t0
        rw [if_neg e4]
    obtain ⟨b, s2, nb, hb, rfl⟩ := hM
    -- the other way about
    refine ⟨fun σ' H' => ∃ b, Same H H' ∧ H b = none ∧ H' b = some (.lst (nats (t1 l.length w l))) ∧ σ' = [some (.ref a), some (.int (w : Int)), some (.ref b), none], ?_, fun σ' H3 hM => ?_⟩
    · refine ⟨_, rfl, _, _, rfl, rfl, z2, rfl, _, rfl, ite2 (fun e => ?_) (fun e => ?_)⟩
      · rw [dec_vint] at e
        refine ⟨_, rfl, b, _, rfl, .of hb, fun c nc => ⟨c, s2.trans (same_upd nc), s2.free nc, ?_, rfl⟩⟩
        rw [upd_same, nats_rev]
        unfold t1
        rw [if_pos (by omega)]
      · rw [dec_vint] at e
        refine ⟨b, s2, nb, ?_, rfl⟩
        rw [hb]
        unfold t1
        rw [if_neg (by omega)]
    obtain ⟨b1, s3, nb1, hb1, rfl⟩ := hM
    have hlen := t1_len (w := w) B
    have hlt : ∀ x ∈ t1 l.length w l, x < l.length := by
      intro x hx
      obtain ⟨c, hc⟩ := List.mem_iff_getElem?.mp hx
      have h0 : x ∈ t0 l.length w l := by
        unfold t1 at hx
        split at hx
        · exact List.mem_reverse.mp hx
        · exact hx
      unfold t0 at h0
      split at h0
      · unfold inv at h0
        obtain ⟨r, hr, rfl⟩ := List.mem_map.mp h0
        obtain ⟨c, hc⟩ := B.onto (List.mem_range.mp hr)
        rw [B.idx hc]
        exact (B.lt hc).1
      · obtain ⟨c, hc⟩ := List.mem_iff_getElem?.mp h0
        exact (B.lt hc).2
    -- upside down
    refine ⟨fun σ' H' => ∃ b y, Same H H' ∧ H b = none ∧ H' b = some (.lst (nats (t2 l.length w l))) ∧ σ' = [some (.ref a), some (.int (w : Int)), some (.ref b), y], ?_, fun σ' H4 hM => ?_⟩
    · refine ⟨_, rfl, _, _, rfl, rfl, ⟨by decide, by decide⟩, _, _, rfl, rfl, z2, rfl, _, rfl, ite2 (fun e => ?_) (fun e => ?_)⟩
      · rw [dec_vint] at e
        refine ⟨_, rfl, b1, rfl, ⟨_, .of hb1⟩, fun D1 nD => ?_⟩
        refine lc_it (walk_list (xs := nats (t1 l.length w l))) (fun i H' => Same H3 H' ∧ H' D1 = some (.lst (nats (((t1 l.length w l).take i).map fun r => l.length - 1 - r)))) ⟨same_upd nD, upd_same⟩ (fun i H' _ hP => .of (hP.1 _ _ hb1)) (fun i x H4 H5 hi hP hY => ?_) (fun H4 hP => ?_)
        · obtain ⟨sm, hD⟩ := hP
          obtain ⟨rfl, hx⟩ := hY
          rw [nats_len] at hi
          rw [nats_get hi] at hx
          cases hx
          have hv := hlt _ (List.getElem_mem hi)
          refine ⟨rfl, ?_⟩
          refine ⟨_, rfl, a, _, rfl, .inl (.of ((s3.trans sm) _ _ ha)), _, _, rfl, rfl, _, rfl, _, _, rfl, rfl, _, hD, ?_, fun x o h => ?_, ?_⟩
          · rw [nats_len, List.length_map, List.length_take]
            exact small1000 (by omega)
          · rw [upd_ne (ne_of_none h nD)]
            exact sm x o h
          · rw [upd_same, nats_len]
            dsimp only
            rw [show ((l.length : Nat) : Int) - 1 - (((t1 l.length w l)[i] : Nat) : Int) = ((l.length - 1 - (t1 l.length w l)[i] : Nat) : Int) by omega, nats_snoc, List.take_add_one, List.getElem?_eq_getElem hi, List.map_append]
            rfl
        · obtain ⟨sm, hD⟩ := hP
          refine ⟨D1, _, s3.trans sm, s3.free nD, ?_, rfl⟩
          rw [hD, List.take_of_length_le (by rw [nats_len]; omega)]
          unfold t2
          rw [if_pos (by omega)]
      · rw [dec_vint] at e
        refine ⟨b1, _, s3, nb1, ?_, rfl⟩
        rw [hb1]
        unfold t2
        rw [if_neg (by omega)]
    obtain ⟨b2, y, s4, nb2, hb2, rfl⟩ := hM
    exact ⟨_, rfl, q _ b2 s4 nb2 hb2⟩
theorem cutV_from1 (x : V) (xs : List V) : cutV (x :: xs) (some 1) none = xs := by
  unfold cutV
  rw [HT.sIx_none, show (1 : Int) = ((1 : Nat) : Int) from rfl, HT.sIx_nat, List.length_cons, show min 1 (xs.length + 1) = 1 by omega]
  show List.take (xs.length + 1 - 1) xs = xs
  rw [Nat.add_sub_cancel, List.take_length]
def spWithout : Sp := fun vs H Q _ => ∃ (a : Addr) (t : List Nat), vs = [.ref a] ∧ H a = some (.lst (nats (0 :: t))) ∧ Dots (0 :: t) ∧ 1 ≤ t.length ∧ ∀ (H' : Hp) (b : Addr), Same H H' → H b = none → H' b = some (.lst (nats (t.map fun r => r - 1))) → Q (.ref b) H'
theorem Dots.pos {t : List Nat} (D : Dots (0 :: t)) : ∀ x ∈ t, 1 ≤ x := fun x hx => by
  obtain ⟨k1, _⟩ := List.nodup_cons.mp D.brd.nodup
  have : x ≠ 0 := fun e => k1 (e ▸ hx)
  omega
theorem ok_without_corner (T : Txt K mg fa fd tk) : FnOk P w K mg base CX0 3 (fa 11) (fd 11) ["dots"] spWithout := by
  refine T.F_without_corner.ok sc_without_corner (fun vs H Q E h => ?_) (fun cdv A outer s H vs Q E hr h => ?_)
  · obtain ⟨a, t, rfl, _⟩ := h
    rfl
  · obtain ⟨a, t, rfl, ha, D, ht, q⟩ := h
    have d2 := D.hi
    rw [List.length_cons] at d2
    refine ⟨_, (pss_cons (ps_expr (pe_call (ok_asked_dots T) (hr.mono (by decide)) (by rfl) T.g_asked_dots T.F_asked_dots.kp T.b_asked_dots .nil pass0 (pa_cons (pv 0) pa_nil)))
      (pss_cons (ps_if (PW.pt (pw_or (pt_cmpR op_ne (pe_ix ix_list (pv 0) pe_int (fun _ _ => rfl)) pe_int (nomark _)) (pw_or1 (pt_cmpR op_eq (pe_callB call_len_seq (by rfl) T.m_len (by decide +kernel) (pa_cons (pv 0) pa_nil)) pe_int (nomark _))))) (pss_one ps_never) pss_nil)
      (pss_one (ps_ret (pe_lc (own := [("row", 1)]) (g := gName 1) (tt := tYes) (by rfl) sc_without_corner.nd (pi_list (pe_slice sl_list (pv 0) (po_some pe_int) po_none)) (blkOk_by (own := [("row", 1)]) (N := ["dots", "row"]) (sc := (defScope s_without_corner)) (by decide +kernel)) (fun _ _ _ _ _ => (pg_name (i := 1) sc_without_corner.nd rfl (Or.inl rfl))) (fun _ _ _ _ _ => pts_nil) (fun _ _ _ _ _ => (pe_op op_sub (pv 1) pe_int))))))), ?_⟩
    refine ⟨_, rfl, a, _, rfl, ha, D, fun H1 s1 => ?_⟩
    have ha1 := s1 _ _ ha
    refine ⟨_, rfl, a, _, _, _, rfl, rfl, .of ha1, atI_nat (j := 0) rfl, rfl, _, rfl, iteN rfl ?_⟩
    refine ⟨_, rfl, a, _, rfl, .inl (.of ha1), rfl, _, rfl, ite2 (fun e => ?_) (fun _ => ?_)⟩
    · exfalso
      rw [dec_vint, nats_len, List.length_cons] at e
      omega
    refine ⟨_, rfl, 1, rfl, a, _, rfl, .of ha1, fun c nc => ?_⟩
    have hc : upd H1 c (.lst (cutV (nats (0 :: t)) (some 1) none)) c = some (.lst (nats t)) := by
      rw [upd_same]
      exact congrArg (fun z => some (HO.lst z)) (cutV_from1 _ _)
    refine ⟨c, rfl, ⟨_, .of hc⟩, fun D1 nD => ?_⟩
    have sC := same_upd (o := .lst (cutV (nats (0 :: t)) (some 1) none)) nc
    generalize upd H1 c (.lst (cutV (nats (0 :: t)) (some 1) none)) = H2 at *
    refine lc_it (walk_list (xs := nats t)) (fun i H' => Same H2 H' ∧ H' D1 = some (.lst (nats ((t.take i).map fun r => r - 1)))) ⟨same_upd nD, upd_same⟩ (fun i H' _ hP => .of (hP.1 _ _ hc)) (fun i x H4 H5 hi hP hY => ?_) (fun H4 hP => ?_)
    · obtain ⟨sm, hD⟩ := hP
      obtain ⟨rfl, hx⟩ := hY
      rw [nats_len] at hi
      rw [nats_get hi] at hx
      cases hx
      have hv := D.pos _ (List.getElem_mem hi)
      refine ⟨rfl, ?_⟩
      refine ⟨_, rfl, _, _, rfl, rfl, _, hD, ?_, fun x o h => ?_, ?_⟩
      · rw [nats_len, List.length_map, List.length_take]
        exact small1000 (by omega)
      · rw [upd_ne (ne_of_none h nD)]
        exact sm x o h
      · rw [upd_same]
        dsimp only
        rw [show ((t[i] : Nat) : Int) - 1 = ((t[i] - 1 : Nat) : Int) by omega, nats_snoc, List.take_add_one, List.getElem?_eq_getElem hi, List.map_append]
        rfl
    · obtain ⟨sm, hD⟩ := hP
      rw [List.take_of_length_le (by rw [nats_len]; omega)] at hD
      exact q _ D1 ((s1.trans sC).trans sm) ((s1.trans sC).free nD) hD
end
end Lw
namespace Lw
open PySem PySem.Spec PyProof.Rows L2 AD
section
variable {P : Program} {w : World} {K : PySem.W.Frag} {mg : Str → Option Value} {base : Heap}
variable {fa : Nat → Addr} {fd : Nat → FuncData} {tk : Nat → Tok}
/-! ### where a dot comes, all eight ways -/
theorem if_nat {p : Prop} [Decidable p] {a b : Nat} {v : V} (h : v = if p then V.int (a : Int) else V.int (b : Int)) : v = V.int ((if p then a else b : Nat) : Int) := by
  rw [h]
  split <;> rfl
def spPlace : Sp := fun vs H Q _ => ∃ n w c r : Nat, vs = [.int n, .int w, .int c, .int r] ∧ c < n ∧ r < n ∧ ∀ (H' : Hp) (t : Addr), Same H H' → H' t = some (.tup [.int ((pl n w c r).1 : Nat), .int ((pl n w c r).2 : Nat)]) → Q (.ref t) H'
theorem ok__law_place (T : Txt K mg fa fd tk) : FnOk P w K mg base CX0 1 (fa 22) (fd 22) ["_law_many", "_law_way", "_law_column", "_law_row"] spPlace := by
  refine T.F__law_place.ok sc__law_place (fun vs H Q E h => ?_) (fun cdv A outer s H vs Q E hr h => ?_)
  · obtain ⟨n, w, c, r, rfl, _⟩ := h
    rfl
  · obtain ⟨n, w, c, r, rfl, hc, hr2, q⟩ := h
    have ha : (if 4 ≤ w then r else c) < n := by split <;> omega
    have hb : (if 4 ≤ w then c else r) < n := by split <;> omega
    refine ⟨_, (C8.pss_cut (ps_if (pt_cmpR op_ge (pv 1) pe_int (nomark _)) (pss_one (ps_par (i := 2) (j := 3) (by rfl) sc__law_place.nd rfl rfl (by decide) rfl rfl (pa_cons (pv 3) (pa_cons (pv 2) pa_nil)) (by rfl))) pss_nil)
      (C8.pss_cut (ps_if (pt_cmpR op_eq (pe_op op_mod (pv 1) pe_int) pe_int (nomark _)) (pss_one (ps_set (i := 2) sc__law_place.nd rfl (.inl rfl) (pe_op op_sub (pe_op op_sub (pv 0) pe_int) (pv 2)))) pss_nil)
      (C8.pss_cut (ps_if (pt_cmpR op_eq (pe_op op_mod (pe_op op_fdiv (pv 1) pe_int) pe_int) pe_int (nomark _)) (pss_one (ps_set (i := 3) sc__law_place.nd rfl (.inl rfl) (pe_op op_sub (pe_op op_sub (pv 0) pe_int) (pv 3)))) pss_nil)
      (pss_one (ps_ret (pe_tup (pa_cons (pv 2) (pa_cons (pv 3) pa_nil)))))))), ?_⟩
    refine ⟨fun σ' H' => H' = H ∧ σ' = [some (.int (n : Int)), some (.int (w : Int)), some (.int ((if 4 ≤ w then r else c : Nat) : Int)), some (.int ((if 4 ≤ w then c else r : Nat) : Int))], ?_, fun σ' H1 hM => ?_⟩
    · refine ⟨_, rfl, _, _, rfl, rfl, _, rfl, ite2 (fun e => ?_) (fun e => ?_)⟩
      · have e4 : 4 ≤ w := by have h := dT e; omega
        refine ⟨_, rfl, _, rfl, _, _, rfl, rfl, ?_⟩
        rw [if_pos e4, if_pos e4]
        rfl
      · have e4 : ¬ 4 ≤ w := by have h := dF e; omega
        refine ⟨rfl, ?_⟩
        rw [if_neg e4, if_neg e4]
        rfl
    obtain ⟨rfl, rfl⟩ := hM
    refine ⟨fun σ' H' => H' = H1 ∧ σ' = [some (.int (n : Int)), some (.int (w : Int)), some (.int ((if w % 2 = 1 then n - 1 - (if 4 ≤ w then r else c) else (if 4 ≤ w then r else c) : Nat) : Int)), some (.int ((if 4 ≤ w then c else r : Nat) : Int))], ?_, fun σ' H2 hM => ?_⟩
    · refine ⟨_, rfl, _, _, rfl, rfl, z2, rfl, _, rfl, ite2 (fun e => ?_) (fun e => ?_)⟩
      · rw [dec_vint] at e
        refine ⟨_, rfl, _, _, rfl, rfl, _, rfl, _, _, rfl, rfl, rfl, ?_⟩
        rw [if_pos (show w % 2 = 1 by omega), show ((n - 1 - (if 4 ≤ w then r else c) : Nat) : Int) = (n : Int) - 1 - ((if 4 ≤ w then r else c : Nat) : Int) by omega]
        rfl
      · rw [dec_vint] at e
        refine ⟨rfl, ?_⟩
        rw [if_neg (show ¬ w % 2 = 1 by omega)]
    obtain ⟨rfl, rfl⟩ := hM
    refine ⟨fun σ' H' => H' = H2 ∧ σ' = [some (.int (n : Int)), some (.int (w : Int)), some (.int ((pl n w c r).1 : Nat)), some (.int ((pl n w c r).2 : Nat))], ?_, fun σ' H3 hM => ?_⟩
    · refine ⟨_, rfl, _, _, rfl, rfl, ⟨by decide, by decide⟩, _, _, rfl, rfl, z2, rfl, _, rfl, ite2 (fun e => ?_) (fun e => ?_)⟩
      · rw [dec_vint] at e
        refine ⟨_, rfl, _, _, rfl, rfl, _, rfl, _, _, rfl, rfl, rfl, ?_⟩
        unfold pl
        dsimp only
        rw [if_pos (show w / 2 % 2 = 1 by omega), show ((n - 1 - (if 4 ≤ w then c else r) : Nat) : Int) = (n : Int) - 1 - ((if 4 ≤ w then c else r : Nat) : Int) by omega]
        rfl
      · rw [dec_vint] at e
        refine ⟨rfl, ?_⟩
        unfold pl
        dsimp only
        rw [if_neg (show ¬ w / 2 % 2 = 1 by omega)]
    obtain ⟨rfl, rfl⟩ := hM
    exact ⟨_, rfl, _, rfl, by show 2 ≤ sizeLine; decide, fun t nt => q _ t (same_upd nt) upd_same⟩
theorem bk_at {i : Nat} (h : i < 8) : atI (nats [0, 1, 2, 3, 4, 6, 5, 7]) (0 + (i : Int)) = some (.int ((bk i : Nat) : Int)) := by
  rw [Int.zero_add]
  refine atI_nat ?_
  have hw' : i = 0 ∨ i = 1 ∨ i = 2 ∨ i = 3 ∨ i = 4 ∨ i = 5 ∨ i = 6 ∨ i = 7 := by omega
  rcases hw' with rfl | rfl | rfl | rfl | rfl | rfl | rfl | rfl <;> rfl
def spRight6 : Sp := fun vs H Q _ => ∃ (a : Addr) (os : List Nat), vs = [.ref a] ∧ H a = some (.lst (nats os)) ∧ Dots os ∧ ∀ H', Same H H' → Q (.bl true) H'
theorem ok__law_right (T : Txt K mg fa fd tk) : FnOk P w K mg base CX0 4 (fa 23) (fd 23) ["_law_dots"] spRight6 := by
  refine T.F__law_right.ok sc__law_right (fun vs H Q E h => ?_) (fun cdv A outer s H vs Q E hr h => ?_)
  · obtain ⟨a, os, rfl, _⟩ := h
    rfl
  · obtain ⟨a, os, rfl, ha, D, q⟩ := h
    have hu := hr.units
    have d1 := D.lo
    have d2 := D.hi
    have B := D.brd
    have hz : ∀ {H' : Hp} {c : Addr} {l : List Nat}, H' c = some (.lst (nats l)) → SqL K H' c ((zof l).map V.int) := fun h => .of (by rw [h, nats_ints]; rfl)
    refine ⟨_, (pss_cons (ps_par (i := 1) (j := 2) (by rfl) sc__law_right.nd rfl rfl (by decide) rfl rfl (pa_cons (pe_callB call_len_seq (by rfl) T.m_len (by decide +kernel) (pa_cons (pv 0) pa_nil)) (pa_cons (pe_callTy call_list_of (by rfl) T.m_list (by decide +kernel) (pa_cons (pv 0) pa_nil)) pa_nil)) (by rfl))
      (pss_cons (ps_for PassesOwn.never rfl (pi_range1 (by rfl) T.m_range (pa_cons pe_int pa_nil)) (pg_name (i := 3) sc__law_right.nd rfl (.inl rfl)) (pss_cons (ps_set (i := 4) sc__law_right.nd rfl (.inl rfl) (pe_call (ok_turned T) (hr.mono (by decide)) (by rfl) T.g_turned T.F_turned.kp T.b_turned .nil pass0 (pa_cons (pv 2) (pa_cons (pv 3) pa_nil))))
      (pss_cons (ps_if (PW.pt (pw_or (pt_not (pt_val (pe_callB call_isi (by rfl) T.m_isinstance (by decide +kernel) (pa_cons (pv 4) (pa_cons (pe_bltn (v := .ty "list") (u := .type "list") (by rfl) T.m_list (by decide +kernel) rfl) pa_nil))))) (pw_or (pt_cmpR (op_neL hu) (pe_callB cr_sorted (by rfl) T.m_sorted (by decide +kernel) (pa_cons (pv 4) pa_nil)) (pe_listRg rfl (by rfl) T.m_list (prg_1 (by rfl) T.m_range (pv 1))) (nomark _)) (pw_or1 (pt_cmpR (op_neL hu) (pv 2) (pv 0) (nomark _)))))) (pss_one (ps_ret pe_bl)) pss_nil)
      (pss_cons (ps_for PassesOwn.never rfl (pi_enum (by rfl) T.m_enumerate (pa_cons (pv 0) pa_nil)) (pg_tup rfl (pgs_cons (pg_name (i := 5) sc__law_right.nd rfl (.inl rfl)) (pgs_cons (pg_name (i := 6) sc__law_right.nd rfl (.inl rfl)) pgs_nil))) (pss_cons (ps_set (i := 7) sc__law_right.nd rfl (.inl rfl) (pe_call (ok__law_place T) (hr.mono (by decide)) (by rfl) T.g__law_place T.F__law_place.kp T.b__law_place .nil pass0 (pa_cons (pv 1) (pa_cons (pv 3) (pa_cons (pv 5) (pa_cons (pv 6) pa_nil))))))
      (pss_one (ps_if (pt_cmpR op_ne (pe_ix ix_list (pv 4) (pe_ix ix_tup (pv 7) pe_int (fun _ _ => rfl)) (fun _ _ => rfl)) (pe_ix ix_tup (pv 7) pe_int (fun _ _ => rfl)) (nomark _)) (pss_one (ps_ret pe_bl)) pss_nil))))
      (C8.pss_cut (ps_if (PW.pt (pw_or (pt_cmpR op_ne (pe_callB call_isi (by rfl) T.m_isinstance (by decide +kernel) (pa_cons (pe_call (ok_judged T) (hr.mono (by decide)) (by rfl) T.g_judged T.F_judged.kp T.b_judged .nil pass0 (pa_cons (pv 4) pa_nil)) (pa_cons (pe_glob (v := .ref _) rfl T.g_Apart rfl) pa_nil))) (pe_call (ok__law_apart T) (hr.mono (by decide)) (by rfl) T.g__law_apart T.F__law_apart.kp T.b__law_apart .nil pass0 (pa_cons (pv 0) pa_nil)) (nomark _)) (pw_or1 (pt_cmpR op_eq (pe_callB call_isi (by rfl) T.m_isinstance (by decide +kernel) (pa_cons (pe_call (ok_judged T) (hr.mono (by decide)) (by rfl) T.g_judged T.F_judged.kp T.b_judged .nil pass0 (pa_cons (pv 4) pa_nil)) (pa_cons (pe_glob (v := .ref _) rfl T.g_Same rfl) pa_nil))) (pe_call (ok__law_apart T) (hr.mono (by decide)) (by rfl) T.g__law_apart T.F__law_apart.kp T.b__law_apart .nil pass0 (pa_cons (pv 0) pa_nil)) (nomark _))))) (pss_one (ps_ret pe_bl)) pss_nil)
      (pss_cons (ps_set (i := 8) sc__law_right.nd rfl (.inl rfl) (pe_ix ix_tup (pe_tup (pa_cons pe_int (pa_cons pe_int (pa_cons pe_int (pa_cons pe_int (pa_cons pe_int (pa_cons pe_int (pa_cons pe_int (pa_cons pe_int pa_nil))))))))) (pv 3) (fun _ _ => rfl)))
      (pss_cons (ps_if (pt_cmpR (op_neL hu) (pe_call (ok_turned T) (hr.mono (by decide)) (by rfl) T.g_turned T.F_turned.kp T.b_turned .nil pass0 (pa_cons (pv 4) (pa_cons (pv 8) pa_nil))) (pv 0) (nomark _)) (pss_one (ps_ret pe_bl)) pss_nil)
      (pss_cons (ps_expr (pe_bm PySem.F.plainAttrs_list PySem.F.slot_list_append PySem.F.type_list_append mt_append (pv 4) (pa_cons pe_int pa_nil)))
      (pss_one (ps_if (pt_cmpR (op_neL hu) (pe_call (ok_turned T) (hr.mono (by decide)) (by rfl) T.g_turned T.F_turned.kp T.b_turned .nil pass0 (pa_cons (pv 2) (pa_cons (pv 3) pa_nil))) (pe_slice sl_list (pv 4) po_none (po_some (pe_un un_neg pe_int))) (nomark _)) (pss_one (ps_ret pe_bl)) pss_nil))))))))))
      (pss_one (ps_ret pe_bl)))), ?_⟩
    refine ⟨_, rfl, a, _, rfl, .inl (.of ha), _, rfl, a, _, rfl, .inl (.of ha), fun hd nhd => ⟨_, _, rfl, ?_⟩⟩
    have sA := same_upd (o := .lst (nats os)) nhd
    refine ⟨8, rfl, by decide, by decide, ?_⟩
    refine for_it (walk_range (lo := 0) (n := (8 : Int).toNat)) (fun i σ H' => Same H H' ∧ H' hd = some (.lst (nats os)) ∧ ∃ y3 y4 y5 y6 y7 y8, σ = [some (.ref a), some (.int (((nats os).length : Nat) : Int)), some (.ref hd), y3, y4, y5, y6, y7, y8]) ⟨sA, upd_same, none, none, none, none, none, none, rfl⟩ (fun _ _ _ _ _ => True.intro) (fun i x σ H2 H3 hi hP hY => ?_) (fun σ H2 hP => ?_)
    · obtain ⟨sm, hhd, y3, y4, y5, y6, y7, y8, rfl⟩ := hP
      obtain ⟨rfl, rfl⟩ := hY
      have hi8 : i < 8 := hi
      have TT := t2_turn (w := i) B
      have Bm := TT.brd B hi8
      have Dm := brd_dots Bm d1 d2
      have hml := Bm.len
      -- turned
      refine ⟨_, rfl, _, rfl, hd, os, i, by show [V.ref hd, V.int (0 + (i : Int))] = _; rw [Int.zero_add], hhd, D, hi8, fun H4 fl s4 nfl hfl => ?_⟩
      generalize hm : t2 os.length i os = m at *
      refine ⟨_, rfl, _, _, _, _, true, rfl, .ty _, .base (.lst hfl), kit_ty (by decide +kernel), true, rfl, iteF ?_⟩
      refine ⟨_, rfl, fl, zof m, rfl, hz hfl, by rw [zof_len]; omega, fun ns' p1 pm so np => ?_⟩
      have sE := same_upd (o := .lst (ns'.map V.int)) np
      have e1 : ns' = zof (List.range os.length) := sorted_range pm Bm.pm so
      refine ⟨_, rfl, _, rfl, RgOk.of_le (by omega) (by rw [nats_len]; omega) (by omega) (by omega), fun p2 np2 => ?_⟩
      have sF := sE.trans (same_upd (o := .lst (rgV 0 (((nats os).length : Nat) : Int))) np2)
      refine ⟨p1, p2, ns', zof (List.range os.length), rfl, rfl, .of (same_upd np2 _ _ upd_same), .of ?_, _, rfl, ?_⟩
      · rw [upd_same, nats_len, rgV_nats, nats_ints]
        rfl
      rw [decide_eq_true e1]
      refine iteF ?_
      have s35 := s4.trans sF
      have hfl5 := sF _ _ hfl
      generalize upd (upd H4 p1 (.lst (ns'.map V.int))) p2 (.lst (rgV 0 (((nats os).length : Nat) : Int))) = H5 at *
      have ha5 := (sm.trans s35) _ _ ha
      refine ⟨_, rfl, _, rfl, hd, a, zof os, zof os, rfl, rfl, hz (s35 _ _ hhd), hz ha5, _, rfl, ?_⟩
      rw [decide_eq_true rfl]
      refine iteF ?_
      -- dot by dot
      refine ⟨_, rfl, a, _, rfl, .of ha5, ?_⟩
      refine for_it (walk_enum (xs := nats os)) (fun j σ H' => Same H5 H' ∧ ∃ y5 y6 y7, σ = [some (.ref a), some (.int (((nats os).length : Nat) : Int)), some (.ref hd), some (.int (0 + (i : Int))), some (.ref fl), y5, y6, y7, y8]) ⟨Same.refl _, y5, y6, y7, rfl⟩ (fun j σ H' _ hP => .of (hP.1 _ _ ha5)) (fun j x σ H6 H7 hj hP hY => ?_) (fun σ H6 hP => ?_)
      · obtain ⟨s6, v5, v6, v7, rfl⟩ := hP
        obtain ⟨t3, x1, x2, rfl, nt3, rfl, ex1, ex2⟩ := hY
        cases ex1
        rw [nats_len] at hj
        have ex3 : (nats os)[j]? = some x2 := ex2
        rw [nats_get hj] at ex3
        cases ex3
        have sG := s6.trans (same_upd (o := .tup [V.int (j : Int), V.int ((os[j] : Nat) : Int)]) nt3)
        have hjr := List.getElem?_eq_getElem hj
        obtain ⟨k1, k2⟩ := B.lt hjr
        refine ⟨t3, _, rfl, .of upd_same, rfl, _, _, rfl, _, _, rfl, rfl, ?_⟩
        refine ⟨_, rfl, _, rfl, _, rfl, _, rfl, os.length, i, j, os[j], by rw [Int.zero_add, nats_len]; rfl, k1, k2, fun H8 t s8 ht => ?_⟩
        have hat : atI (nats m) (((pl os.length i j os[j]).1 : Nat) : Int) = some (.int (((pl os.length i j os[j]).2 : Nat) : Int)) := by
          refine atI_nat ?_
          unfold nats
          rw [List.getElem?_map, TT.to j _ hjr]
          rfl
        refine ⟨_, rfl, _, rfl, t, _, _, _, rfl, rfl, .of ht, atI_nat (j := 0) rfl, fl, _, _, _, rfl, rfl, .of ((sG.trans s8) _ _ hfl5), hat, _, rfl, t, _, _, _, rfl, rfl, .of ht, atI_nat (j := 1) rfl, rfl, _, rfl, iteN rfl ?_⟩
        exact ⟨sG.trans s8, _, _, _, rfl⟩
      · obtain ⟨s6, v5, v6, v7, rfl⟩ := hP
        have ha6 := s6 _ _ ha5
        have hfl6 := s6 _ _ hfl5
        have tap := TT.apt B hi8
        -- as many alike arrows or none
        refine ⟨fun σ' H' => Same H6 H' ∧ σ' = [some (.ref a), some (.int (((nats os).length : Nat) : Int)), some (.ref hd), some (.int (0 + (i : Int))), some (.ref fl), v5, v6, v7, y8], ?_, fun σ' H7 hM => ?_⟩
        · refine ⟨_, rfl, fl, m, rfl, hfl6, Dm, fun H7 x dx ap s7 hx => ?_, fun i' j' d' H7 x z1 z2 z3 e s7 hx => ?_⟩
          · have apo := tap.mp ap
            refine ⟨_, _, _, _, true, rfl, .own _, T.in_Apart.ty hx, T.ki_Apart_Apart, _, rfl, a, zof os, rfl, hz (s7 _ _ ha6), by rw [zof_len]; omega, D.tri, fun b1 H8 hb1 s8 => ⟨rfl, _, rfl, ?_⟩⟩
            rw [bt_of hb1 apo]
            refine iteN rfl ?_
            have s78 := s7.trans s8
            refine ⟨_, rfl, fl, m, rfl, s78 _ _ hfl6, Dm, fun H9 x' dx' _ s9 hx' => ?_, fun i' j' d' H9 x' z1 z2 z3 e s9 hx' => absurd e (ap d' i' j' z1 z2 (by rw [zof_len]; exact z3))⟩
            refine ⟨_, _, _, _, false, rfl, .own _, T.in_Apart.ty hx', T.ki_Apart_Same, _, rfl, a, zof os, rfl, hz ((s78.trans s9) _ _ ha6), by rw [zof_len]; omega, D.tri, fun b2 H10 hb2 s10 => ⟨rfl, _, rfl, ?_⟩⟩
            rw [bt_of hb2 apo]
            refine ite2 (fun e => (nomatch e)) (fun _ => ?_)
            exact ⟨(s78.trans s9).trans s10, rfl⟩
          · have nap : ¬ Apt (zof m) := fun h => h d' i' j' z1 z2 (by rw [zof_len]; exact z3) e
            have napo : ¬ Apt (zof os) := fun h => nap (tap.mpr h)
            obtain ⟨dx, hx⟩ := hx
            refine ⟨_, _, _, _, false, rfl, .own _, T.in_Same.ty hx, T.ki_Same_Apart, _, rfl, a, zof os, rfl, hz (s7 _ _ ha6), by rw [zof_len]; omega, D.tri, fun b1 H8 hb1 s8 => ⟨rfl, _, rfl, ?_⟩⟩
            rw [bf_of hb1 napo]
            refine iteN rfl ?_
            have s78 := s7.trans s8
            refine ⟨_, rfl, fl, m, rfl, s78 _ _ hfl6, Dm, fun H9 x' dx' ap s9 hx' => absurd ap nap, fun i' j' d' H9 x' z1 z2 z3 e s9 hx' => ?_⟩
            obtain ⟨dx', hx'⟩ := hx'
            refine ⟨_, _, _, _, true, rfl, .own _, T.in_Same.ty hx', T.ki_Same_Same, _, rfl, a, zof os, rfl, hz ((s78.trans s9) _ _ ha6), by rw [zof_len]; omega, D.tri, fun b2 H10 hb2 s10 => ⟨rfl, _, rfl, ?_⟩⟩
            rw [bf_of hb2 napo]
            refine ite2 (fun e => (nomatch e)) (fun _ => ?_)
            exact ⟨(s78.trans s9).trans s10, rfl⟩
        obtain ⟨s7, rfl⟩ := hM
        -- the way back
        refine ⟨by show 8 ≤ sizeLine; decide, fun t nt => ⟨_, rfl, t, _, _, _, rfl, rfl, SqT.of upd_same, bk_at hi8, ?_⟩⟩
        have sT := s7.trans (same_upd (o := .tup (nats [0, 1, 2, 3, 4, 6, 5, 7])) nt)
        have hflT := sT _ _ hfl6
        refine ⟨_, rfl, _, rfl, fl, m, bk i, rfl, hflT, Dm, bk_lt hi8, fun H8 b8 s8 n8 h8 => ?_⟩
        have e8 : t2 m.length (bk i) m = os := by
          rw [hml]
          exact Turn.unique (t2_turn Bm) (TT.back B hi8) Bm
        rw [e8] at h8
        refine ⟨_, rfl, b8, a, zof os, zof os, rfl, rfl, hz h8, hz ((sT.trans s8) _ _ ha6), _, rfl, ?_⟩
        rw [decide_eq_true rfl]
        refine iteF ?_
        -- the list changed, told again
        have hfl8 := (sT.trans s8) _ _ hfl6
        have s38 := ((s35.trans s6).trans sT).trans s8
        refine ⟨_, rfl, .inl ⟨rfl, _, .of hfl8⟩, fl, _, _, rfl, rfl, hfl8, ?_, ?_⟩
        · rw [nats_len]
          exact small1000 (by omega)
        have sH : Same H3 (upd H8 fl (.lst (nats m ++ [V.int 0]))) := fun x o e => by
          rw [upd_ne (ne_of_none e nfl)]
          exact s38 x o e
        refine ⟨_, rfl, _, rfl, hd, os, i, by show [V.ref hd, V.int (0 + (i : Int))] = _; rw [Int.zero_add], sH _ _ hhd, D, hi8, fun H9 d2 s9 nd2 hd2 => ?_⟩
        rw [hm] at hd2
        refine ⟨_, rfl, 1, rfl, -1, rfl, fl, _, rfl, .of (s9 _ _ upd_same), fun c2 nc2 => ?_⟩
        refine ⟨d2, c2, zof m, zof m, rfl, rfl, hz (same_upd nc2 _ _ hd2), hz (by rw [upd_same, cutV_last]), _, rfl, ?_⟩
        rw [decide_eq_true rfl]
        exact iteF ⟨(sm.trans (sH.trans s9)).trans (same_upd nc2), same_upd nc2 _ _ ((sH.trans s9) _ _ hhd), _, _, _, _, _, _, rfl⟩
    · obtain ⟨sm, hhd, y3, y4, y5, y6, y7, y8, rfl⟩ := hP
      exact q _ sm
end
end Lw
namespace Lw
open PySem PySem.Spec PyProof.Rows L2 AD
section
variable {P : Program} {w : World} {K : PySem.W.Frag} {mg : Str → Option Value} {base : Heap}
variable {fa : Nat → Addr} {fd : Nat → FuncData} {tk : Nat → Tok}
/-! ### the law -/
def spLaw (K : PySem.W.Frag) : Sp := fun vs H Q _ => ∃ (a : Addr) (ns : List Int), vs = [.ref a] ∧ SqL K H a (ns.map V.int) ∧ ns.length ≤ 63 ∧ (∀ z ∈ ns, Builtin.Int.intBits z ≤ 1048576) ∧ ∀ H', Q (.bl true) H'
theorem root132 : Root 13 2 := root_lr (prm_in (by decide)) (by decide +kernel)
theorem rows_corner {p g : Nat} (R : Root p g) : ∃ t, rowsN p g 0 = 0 :: t ∧ t.length = p - 2 := by
  have lo := R.good.lo
  obtain ⟨k, hk⟩ : ∃ k, p - 1 = k + 1 := ⟨p - 2, by omega⟩
  unfold rowsN
  rw [hk, List.range_succ_eq_map, List.map_cons]
  refine ⟨List.map (fun c => rowA p g 0 c - 1) (List.map Nat.succ (List.range k)), ?_, ?_⟩
  · have e : rowA p g 0 0 - 1 = 0 := by
      unfold rowA be
      rw [Int.zero_emod]
      show g ^ (0 + 0) % p - 1 = 0
      rw [Nat.add_zero, Nat.pow_zero, Nat.mod_eq_of_lt (by omega)]
    rw [e]
  · rw [List.length_map, List.length_map, List.length_range]
    omega
theorem brd_up {n : Nat} {os : List Nat} (B : Brd n os) : Brd (n + 1) (0 :: os.map fun r => r + 1) := by
  have hl := B.len
  refine ⟨by rw [List.length_cons, List.length_map]; omega, perm_range _ _ (List.nodup_cons.mpr ⟨fun h => ?_, map_nodup B.nodup fun x _ y _ e => by omega⟩) (fun x hx => ?_) (by rw [List.length_cons, List.length_map]; omega)⟩
  · obtain ⟨y, _, e⟩ := List.mem_map.mp h
    omega
  · rcases List.mem_cons.mp hx with e | e
    · omega
    · obtain ⟨y, hy, e⟩ := List.mem_map.mp e
      have := List.mem_range.mp (B.pm.mem_iff.mp hy)
      omega
/-- a list with a dot in the first corner, and another one -/
def CornerAt (H : Hp) (v : V) : Prop := ∃ (l : Addr) (t : List Nat), v = .ref l ∧ H l = some (.lst (nats (0 :: t))) ∧ Dots (0 :: t) ∧ 1 ≤ t.length
theorem CornerAt.same {H H' : Hp} {v : V} (s : Same H H') (h : CornerAt H v) : CornerAt H' v := by
  obtain ⟨l, os, e, hl, r⟩ := h
  exact ⟨l, os, e, s _ _ hl, r⟩
theorem ok_law (T : Txt K mg fa fd tk) : FnOk P w K mg base CX0 6 (fa 24) (fd 24) ["_law_script"] (spLaw K) := by
  refine T.F_law.ok sc_law (fun vs H Q E h => ?_) (fun cdv A outer s H vs Q E hr h => ?_)
  · obtain ⟨a, ns, rfl, _⟩ := h
    rfl
  · obtain ⟨a, ns, rfl, hS, hlen, hbits, q⟩ := h
    have hsm : Small ns := ⟨hlen, hbits⟩
    have hu := hr.units
    have hz : ∀ {H' : Hp} {c : Addr} {l : List Nat}, H' c = some (.lst (nats l)) → SqL K H' c ((zof l).map V.int) := fun h => .of (by rw [h, nats_ints]; rfl)
    refine ⟨_, (C8.pss_cut (ps_set (i := 1) sc_law.nd rfl (.inl rfl) (pe_callB call_abs (by rfl) T.m_abs (by decide +kernel) (pa_cons (pe_callB (cr_sum rfl) (by rfl) T.m_sum (by decide +kernel) (pa_cons (pe_slice sl_list (pv 0) po_none (po_some pe_int)) pa_nil)) pa_nil)))
      (pss_cons (ps_for PassesOwn.never rfl (pi_list (pe_lst (pa_cons pe_int (pa_cons pe_int pa_nil)))) (pg_name (i := 2) sc_law.nd rfl (.inl rfl)) (pss_cons (ps_asg (pe_call (ok__law_plan T) (hr.mono (by decide)) (by rfl) T.g__law_plan T.F__law_plan.kp T.b__law_plan .nil pass0 (pa_cons (pv 0) (pa_cons (pv 2) pa_nil))) (pg_tup rfl (pgs_cons (pg_name (i := 3) sc_law.nd rfl (.inl rfl)) (pgs_cons (pg_name (i := 4) sc_law.nd rfl (.inl rfl)) (pgs_cons (pg_name (i := 5) sc_law.nd rfl (.inl rfl)) pgs_nil)))))
      (C8.pss_cut (ps_asg (pe_ifExp (pt_cmpR op_lt (pv 3) pe_int (nomark _)) (pe_tup (pa_cons (pv 3) (pa_cons (pv 4) pa_nil))) (pe_tup (pa_cons pe_int (pa_cons pe_int pa_nil)))) (pg_tup rfl (pgs_cons (pg_name (i := 3) sc_law.nd rfl (.inl rfl)) (pgs_cons (pg_name (i := 4) sc_law.nd rfl (.inl rfl)) pgs_nil))))
      (pss_cons (ps_set (i := 6) sc_law.nd rfl (.inl rfl) (pe_call (ok_dots_of T) (hr.mono (by decide)) (by rfl) T.g_dots_of T.F_dots_of.kp T.b_dots_of .nil pass0 (pa_cons (pv 3) (pa_cons (pv 4) (pa_cons (pv 5) pa_nil)))))
      (pss_cons (ps_set (i := 7) sc_law.nd rfl (.inl rfl) (pe_call (ok__law_order T) (hr.mono (by decide)) (by rfl) T.g__law_order T.F__law_order.kp T.b__law_order .nil pass0 (pa_cons (pv 0) (pa_cons (pv 2) (pa_cons (pe_op op_add pe_int (pe_op op_mod (pv 1) pe_int)) pa_nil)))))
      (pss_cons (ps_if (PW.pt (pw_or (pt_not (pt_val (pe_call (ok__law_right T) (hr.mono (by decide)) (by rfl) T.g__law_right T.F__law_right.kp T.b__law_right .nil pass0 (pa_cons (pv 6) pa_nil)))) (pw_or1 (pt_not (pt_val (pe_call (ok__law_right T) (hr.mono (by decide)) (by rfl) T.g__law_right T.F__law_right.kp T.b__law_right .nil pass0 (pa_cons (pv 7) pa_nil))))))) (pss_one (ps_ret pe_bl)) pss_nil)
      (pss_cons (ps_set (i := 8) sc_law.nd rfl (.inl rfl) (pe_call (ok_dots_of T) (hr.mono (by decide)) (by rfl) T.g_dots_of T.F_dots_of.kp T.b_dots_of .nil pass0 (pa_cons (pv 3) (pa_cons (pv 4) (pa_cons pe_int pa_nil)))))
      (pss_one (ps_for PassesOwn.never rfl (pi_list (pe_lst (pa_cons (pv 8) (pa_cons (pe_op op_cat (pe_lst (pa_cons pe_int pa_nil)) (pe_lc (own := [("_law_row", 12)]) (g := gName 12) (tt := tYes) (by rfl) sc_law.nd (pi_list (pv 7)) (blkOk_by (own := [("_law_row", 12)]) (N := ["_law_script", "_law_whole", "_law_by", "_law_prime_here", "_law_root_here", "_law_begin", "_law_dots", "_law_some", "_law_corner", "_law_rows_here", "_law_handed", "_law_found", "_law_row"]) (sc := (defScope s_law)) (by decide +kernel)) (fun _ _ _ _ _ => (pg_name (i := 12) sc_law.nd rfl (Or.inl rfl))) (fun _ _ _ _ _ => pts_nil) (fun _ _ _ _ _ => (pe_op op_add (pv 12) pe_int)))) pa_nil)))) (pg_name (i := 9) sc_law.nd rfl (.inl rfl)) (pss_cons (ps_set (i := 10) sc_law.nd rfl (.inl rfl) (pe_callTy call_list_of (by rfl) T.m_list (by decide +kernel) (pa_cons (pv 9) pa_nil)))
      (pss_cons (ps_set (i := 11) sc_law.nd rfl (.inl rfl) (pe_call (ok_without_corner T) (hr.mono (by decide)) (by rfl) T.g_without_corner T.F_without_corner.kp T.b_without_corner .nil pass0 (pa_cons (pv 10) pa_nil)))
      (pss_cons (ps_if (PW.pt (pw_or (pt_not (pt_val (pe_callB call_isi (by rfl) T.m_isinstance (by decide +kernel) (pa_cons (pv 11) (pa_cons (pe_bltn (v := .ty "list") (u := .type "list") (by rfl) T.m_list (by decide +kernel) rfl) pa_nil))))) (pw_or (pt_cmpR (op_neL hu) (pv 11) (pe_lc (own := [("_law_row", 12)]) (g := gName 12) (tt := tYes) (by rfl) sc_law.nd (pi_list (pe_slice sl_list (pv 9) (po_some pe_int) po_none)) (blkOk_by (own := [("_law_row", 12)]) (N := ["_law_script", "_law_whole", "_law_by", "_law_prime_here", "_law_root_here", "_law_begin", "_law_dots", "_law_some", "_law_corner", "_law_rows_here", "_law_handed", "_law_found", "_law_row"]) (sc := (defScope s_law)) (by decide +kernel)) (fun _ _ _ _ _ => (pg_name (i := 12) sc_law.nd rfl (Or.inl rfl))) (fun _ _ _ _ _ => pts_nil) (fun _ _ _ _ _ => (pe_op op_sub (pv 12) pe_int))) (nomark _)) (pw_or1 (pt_cmpR (op_neL hu) (pv 10) (pv 9) (nomark _)))))) (pss_one (ps_ret pe_bl)) pss_nil)
      (pss_one (ps_if (PW.pt (pw_and (pt_val (pe_call (ok__law_apart T) (hr.mono (by decide)) (by rfl) T.g__law_apart T.F__law_apart.kp T.b__law_apart .nil pass0 (pa_cons (pv 9) pa_nil))) (pw_and1 (pt_not (pt_val (pe_callB call_isi (by rfl) T.m_isinstance (by decide +kernel) (pa_cons (pe_call (ok_judged T) (hr.mono (by decide)) (by rfl) T.g_judged T.F_judged.kp T.b_judged .nil pass0 (pa_cons (pv 11) pa_nil)) (pa_cons (pe_glob (v := .ref _) rfl T.g_Apart rfl) pa_nil)))))))) (pss_one (ps_ret pe_bl)) pss_nil))))))))))))))
      (pss_one (ps_ret (pe_and (pe_cmpR (op_eqL hu) (pe_call (ok_turned T) (hr.mono (by decide)) (by rfl) T.g_turned T.F_turned.kp T.b_turned .nil pass0 (pa_cons (pe_lst (pa_cons pe_int (pa_cons pe_int (pa_cons pe_int pa_nil)))) (pa_cons pe_int pa_nil))) (pe_lst (pa_cons pe_int (pa_cons pe_int (pa_cons pe_int pa_nil)))) (nomark _)) (pe_and (pe_cmpR (op_eqL hu) (pe_call (ok_turned T) (hr.mono (by decide)) (by rfl) T.g_turned T.F_turned.kp T.b_turned .nil pass0 (pa_cons (pe_lst (pa_cons pe_int (pa_cons pe_int (pa_cons pe_int pa_nil)))) (pa_cons pe_int pa_nil))) (pe_lst (pa_cons pe_int (pa_cons pe_int (pa_cons pe_int pa_nil)))) (nomark _)) (pe_one (pe_cmpR (op_eqL hu) (pe_call (ok_turned T) (hr.mono (by decide)) (by rfl) T.g_turned T.F_turned.kp T.b_turned .nil pass0 (pa_cons (pe_lst (pa_cons pe_int (pa_cons pe_int (pa_cons pe_int pa_nil)))) (pa_cons pe_int pa_nil))) (pe_lst (pa_cons pe_int (pa_cons pe_int (pa_cons pe_int pa_nil)))) (nomark _))))))))), ?_⟩
    refine ⟨fun σ' H' => Same H H' ∧ ∃ N : Int, 0 ≤ N ∧ σ' = [some (.ref a), some (.int N), none, none, none, none, none, none, none, none, none, none, none], ?_, fun σ' H1 hM => ?_⟩
    · refine ⟨_, rfl, 63, rfl, a, _, rfl, hS, fun sl nsl => ?_⟩
      refine ⟨sl, ns, rfl, .of ?_, _, rfl, same_upd nsl, _, ?_, rfl⟩
      · rw [upd_same, show (63 : Int) = ((63 : Nat) : Int) from rfl, cutV_to, List.take_of_length_le hlen]
      · split <;> omega
    obtain ⟨s1, N, hN, rfl⟩ := hM
    refine ⟨by show 2 ≤ sizeLine; decide, fun l0 nl0 => ?_⟩
    refine ⟨l0, rfl, ⟨_, .of upd_same⟩, ?_⟩
    refine for_it (walk_list (xs := nats [0, 2])) (fun i σ H' => Same H H' ∧ H' l0 = some (.lst (nats [0, 2])) ∧ ∃ y2 y3 y4 y5 y6 y7 y8 y9 y10 y11 y12, σ = [some (.ref a), some (.int N), y2, y3, y4, y5, y6, y7, y8, y9, y10, y11, y12]) ⟨s1.trans (same_upd nl0), upd_same, none, none, none, none, none, none, none, none, none, none, none, rfl⟩ (fun i σ H' _ hP => .of hP.2.1) (fun i x σ H2 H3 hi hP hY => ?_) (fun σ H2 hP => ?_)
    · obtain ⟨sm, hl0, y2, y3, y4, y5, y6, y7, y8, y9, y10, y11, y12, rfl⟩ := hP
      obtain ⟨rfl, hx⟩ := hY
      obtain ⟨k, hk, rfl⟩ := nats_at hx
      have hk4 : k ≤ 2 := by
        simp only [List.mem_cons, List.not_mem_nil, or_false] at hk
        omega
      -- the plan
      refine ⟨_, rfl, _, rfl, a, ns, k, rfl, sm.seq hS, hsm, by omega, fun H4 t p0 g0 b hp R0 s4 ht => ?_⟩
      refine ⟨t, _, rfl, .of ht, rfl, _, _, rfl, _, _, rfl, _, _, rfl, rfl, ?_⟩
      have P0 := prm_in hp
      have hB0 := R0.rootB P0
      refine ⟨fun σ' H' => Same H4 H' ∧ ∃ p g : Nat, Root p g ∧ rootB p g = true ∧ p ≤ 23 ∧ σ' = [some (.ref a), some (.int N), some (.int (k : Int)), some (.int (p : Int)), some (.int (g : Int)), some (.int b), y6, y7, y8, y9, y10, y11, y12], ?_, fun σ' H5 hM => ?_⟩
      · refine ⟨_, rfl, _, _, rfl, rfl, _, rfl, ite2 (fun e => ?_) (fun e => ?_)⟩
        · exact ⟨_, rfl, _, rfl, by show 2 ≤ sizeLine; decide, fun t nt => ⟨t, _, rfl, .of upd_same, rfl, _, _, rfl, _, _, rfl, rfl, same_upd nt, p0, g0, R0, hB0, by have h := dT e; omega, rfl⟩⟩
        · exact ⟨by show 2 ≤ sizeLine; decide, fun t nt => ⟨t, _, rfl, .of upd_same, rfl, _, _, rfl, _, _, rfl, rfl, same_upd nt, 13, 2, root132, by decide +kernel, by decide, rfl⟩⟩
      obtain ⟨s5, p, g, R, hB, hp23, rfl⟩ := hM
      replace s4 := s4.trans s5
      have lo := R.good.lo
      have D := rows_dots R b (by omega)
      -- all dots
      refine ⟨_, rfl, _, rfl, _, rfl, p, g, b, rfl, R, hB, by omega, fun H6 dl s6 ndl hdl0 => ?_⟩
      have hdl : H6 dl = some (.lst (nats (rowsN p g b))) := by rw [hdl0, rows_nats R]
      have k1 := Int.emod_nonneg N (show (10 : Int) ≠ 0 by decide)
      have k2 := Int.emod_lt_of_pos N (show (0 : Int) < 10 by decide)
      refine ⟨_, rfl, _, rfl, _, rfl, _, _, rfl, rfl, (show (0 : Int) < 10 by decide), _, _, rfl, rfl, a, ns, k, (1 + N % 10).toNat, ?_, ((sm.trans s4).trans s6).seq hS, hsm, by omega, by omega, fun H7 sl os4 hp4 s7 nsl hsl => ?_⟩
      · show [V.ref a, V.int (k : Int), V.int (1 + N % 10)] = _
        rw [Int.toNat_of_nonneg (by omega)]
      have D4 := perm_dots hp4 (by omega) (by omega)
      have hol : os4.length = (1 + N % 10).toNat := by rw [hp4.length_eq, List.length_range]
      -- right
      refine ⟨_, rfl, dl, _, rfl, s7 _ _ hdl, D, fun H8 s8 => ⟨_, rfl, iteF ?_⟩⟩
      refine ⟨_, rfl, sl, _, rfl, s8 _ _ hsl, D4, fun H9 s9 => ⟨_, rfl, iteF ?_⟩⟩
      have hsl9 := (s8.trans s9) _ _ hsl
      -- the corner
      refine ⟨_, rfl, _, rfl, p, g, 0, rfl, R, hB, by omega, fun H10 cl s10 ncl hcl0 => ?_⟩
      obtain ⟨tc, htc, htl⟩ := rows_corner R
      have Dc := rows_dots R 0 (by omega)
      have hcl : H10 cl = some (.lst (nats (0 :: tc))) := by rw [hcl0, rows_nats R, htc]
      rw [htc] at Dc
      have hsl10 := s10 _ _ hsl9
      have s310 := ((((s4.trans s6).trans s7).trans s8).trans s9).trans s10
      refine ⟨_, rfl, by show 1 ≤ sizeLine; decide, fun z1 nz1 => ?_⟩
      have sA := same_upd (o := .lst [V.int 0]) nz1
      have hz1 : upd H10 z1 (.lst [V.int 0]) z1 = some (.lst [V.int 0]) := upd_same
      generalize upd H10 z1 (.lst [V.int 0]) = H11 at *
      refine ⟨_, rfl, sl, rfl, ⟨_, .of (sA _ _ hsl10)⟩, fun D1 nD => ?_⟩
      refine lc_it (walk_list (xs := nats os4)) (fun i H' => Same H11 H' ∧ H' D1 = some (.lst (nats ((os4.take i).map fun r => r + 1)))) ⟨same_upd nD, upd_same⟩ (fun i H' _ hP => .of (hP.1 _ _ (sA _ _ hsl10))) (fun i x H12 H13 hi hP hY => ?_) (fun H12 hP => ?_)
      · obtain ⟨sm2, hD⟩ := hP
        obtain ⟨rfl, hx⟩ := hY
        rw [nats_len] at hi
        rw [nats_get hi] at hx
        cases hx
        refine ⟨rfl, ?_⟩
        refine ⟨_, rfl, _, _, rfl, rfl, _, hD, ?_, fun x o h => ?_, ?_⟩
        · rw [nats_len, List.length_map, List.length_take]
          exact small1000 (by omega)
        · rw [upd_ne (ne_of_none h nD)]
          exact sm2 x o h
        · rw [upd_same]
          dsimp only
          rw [show ((os4[i] : Nat) : Int) + 1 = ((os4[i] + 1 : Nat) : Int) by omega, nats_snoc, List.take_add_one, List.getElem?_eq_getElem hi, List.map_append]
          rfl
      obtain ⟨s12, hD⟩ := hP
      rw [List.take_of_length_le (by rw [nats_len]; omega)] at hD
      refine ⟨z1, D1, _, _, rfl, rfl, s12 _ _ hz1, hD, ?_, fun cp ncp => ?_⟩
      · rw [nats_len, List.length_map]
        show 1 + os4.length ≤ sizeLine
        rw [sizeLine_eq]
        omega
      have B4 := brd_up D4.brd
      have D5 := brd_dots B4 (by omega) (by omega)
      refine ⟨by show 2 ≤ sizeLine; decide, fun l1 nl1 => ?_⟩
      have sB := same_upd (o := .lst ([V.int 0] ++ nats (os4.map fun r => r + 1))) ncp
      have sC := same_upd (o := .lst [V.ref cl, V.ref cp]) nl1
      have s103 := ((sA.trans s12).trans sB).trans sC
      have q1 : CornerAt (upd (upd H12 cp (.lst ([V.int 0] ++ nats (os4.map fun r => r + 1)))) l1 (.lst [V.ref cl, V.ref cp])) (.ref cl) := ⟨cl, tc, rfl, s103 _ _ hcl, Dc, by omega⟩
      have q2 : CornerAt (upd (upd H12 cp (.lst ([V.int 0] ++ nats (os4.map fun r => r + 1)))) l1 (.lst [V.ref cl, V.ref cp])) (.ref cp) := ⟨cp, os4.map fun r => r + 1, rfl, sC _ _ upd_same, D5, by rw [List.length_map]; omega⟩
      refine ⟨l1, rfl, ⟨_, .of upd_same⟩, ?_⟩
      have hl1 : upd (upd H12 cp (.lst ([V.int 0] ++ nats (os4.map fun r => r + 1)))) l1 (.lst [V.ref cl, V.ref cp]) l1 = some (.lst [V.ref cl, V.ref cp]) := upd_same
      generalize upd (upd H12 cp (.lst ([V.int 0] ++ nats (os4.map fun r => r + 1)))) l1 (.lst [V.ref cl, V.ref cp]) = H13 at *
      refine for_it (walk_list (xs := [V.ref cl, V.ref cp])) (fun i σ H' => Same H13 H' ∧ ∃ y9 y10 y11 y12, σ = [some (.ref a), some (.int N), some (.int (k : Int)), some (.int (p : Int)), some (.int (g : Int)), some (.int b), some (.ref dl), some (.ref sl), some (.ref cl), y9, y10, y11, y12]) ⟨Same.refl _, y9, y10, y11, y12, rfl⟩ (fun i σ H' _ hP => .of (hP.1 _ _ hl1)) (fun i x σ H14 H15 hi hP hY => ?_) (fun σ H14 hP => ?_)
      · obtain ⟨s14, w9, w10, w11, w12, rfl⟩ := hP
        obtain ⟨rfl, hx⟩ := hY
        have hca : CornerAt H13 x := by
          have hm := List.mem_of_getElem? hx
          simp only [List.mem_cons, List.not_mem_nil, or_false] at hm
          rcases hm with rfl | rfl
          · exact q1
          · exact q2
        obtain ⟨rl, t, rfl, hrl, Dr, ht1⟩ := hca.same s14
        have dr2 := Dr.hi
        rw [List.length_cons] at dr2
        have Bc := Dr.brd.cut
        have Df := brd_dots Bc (by rw [List.length_cons]; omega) (by rw [List.length_cons]; omega)
        refine ⟨_, rfl, rl, _, rfl, .inl (.of hrl), fun hd nhd => ?_⟩
        have sD := same_upd (o := .lst (nats (0 :: t))) nhd
        have hhd : upd H15 hd (.lst (nats (0 :: t))) hd = some (.lst (nats (0 :: t))) := upd_same
        generalize upd H15 hd (.lst (nats (0 :: t))) = H16 at *
        refine ⟨_, rfl, hd, t, rfl, hhd, Dr, ht1, fun H17 fl s17 nfl hfl => ?_⟩
        refine ⟨_, rfl, _, _, _, _, true, rfl, .ty _, .base (.lst hfl), kit_ty (by decide +kernel), true, rfl, iteF ?_⟩
        have hrl17 := (sD.trans s17) _ _ hrl
        refine ⟨_, rfl, _, rfl, 1, rfl, rl, _, rfl, .of hrl17, fun c nc => ?_⟩
        have hc : upd H17 c (.lst (cutV (nats (0 :: t)) (some 1) none)) c = some (.lst (nats t)) := by
          rw [upd_same]
          exact congrArg (fun z => some (HO.lst z)) (cutV_from1 _ _)
        refine ⟨c, rfl, ⟨_, .of hc⟩, fun D2 nD2 => ?_⟩
        have sF := same_upd (o := .lst (cutV (nats (0 :: t)) (some 1) none)) nc
        generalize upd H17 c (.lst (cutV (nats (0 :: t)) (some 1) none)) = H18 at *
        refine lc_it (walk_list (xs := nats t)) (fun i H' => Same H18 H' ∧ H' D2 = some (.lst (nats ((t.take i).map fun r => r - 1)))) ⟨same_upd nD2, upd_same⟩ (fun i H' _ hP => .of (hP.1 _ _ hc)) (fun i x H19 H20 hi hP hY => ?_) (fun H19 hP => ?_)
        · obtain ⟨sm2, hD⟩ := hP
          obtain ⟨rfl, hx⟩ := hY
          rw [nats_len] at hi
          rw [nats_get hi] at hx
          cases hx
          have hv := Dr.pos _ (List.getElem_mem hi)
          refine ⟨rfl, ?_⟩
          refine ⟨_, rfl, _, _, rfl, rfl, _, hD, ?_, fun x o h => ?_, ?_⟩
          · rw [nats_len, List.length_map, List.length_take]
            exact small1000 (by omega)
          · rw [upd_ne (ne_of_none h nD2)]
            exact sm2 x o h
          · rw [upd_same]
            dsimp only
            rw [show ((t[i] : Nat) : Int) - 1 = ((t[i] - 1 : Nat) : Int) by omega, nats_snoc, List.take_add_one, List.getElem?_eq_getElem hi, List.map_append]
            rfl
        obtain ⟨s19, hD2⟩ := hP
        rw [List.take_of_length_le (by rw [nats_len]; omega)] at hD2
        have s1719 := sF.trans s19
        refine ⟨fl, D2, zof (t.map fun r => r - 1), zof (t.map fun r => r - 1), rfl, rfl, hz (s1719 _ _ hfl), hz hD2, _, rfl, ?_⟩
        rw [decide_eq_true rfl]
        refine iteF ?_
        have hrl19 := s1719 _ _ hrl17
        refine ⟨_, rfl, _, rfl, hd, rl, zof (0 :: t), zof (0 :: t), rfl, rfl, hz ((s17.trans s1719) _ _ hhd), hz hrl19, _, rfl, ?_⟩
        rw [decide_eq_true rfl]
        refine iteF ?_
        have s1519 := (sD.trans s17).trans s1719
        refine ⟨_, rfl, rl, zof (0 :: t), rfl, hz hrl19, by rw [zof_len, List.length_cons]; omega, Dr.tri, fun b1 H20 hb1 s20 => ⟨_, rfl, ?_⟩⟩
        cases b1 with
        | false => exact iteF ⟨(s14.trans s1519).trans s20, _, _, _, _, rfl⟩
        | true =>
          have apt : Apt (zof (t.map fun r => r - 1)) := Dr.brd.cut_apt (hb1.mp rfl)
          refine iteT ⟨_, rfl, fl, _, rfl, (s1719.trans s20) _ _ hfl, Df, fun H21 x dx _ s21 hx => ?_, fun i j d H21 x z1 z2 z3 e s21 hx => absurd e (apt d i j z1 z2 (by rw [zof_len]; exact z3))⟩
          refine ⟨_, _, _, _, true, rfl, .own _, T.in_Apart.ty hx, T.ki_Apart_Apart, true, rfl, iteF ?_⟩
          exact ⟨((s14.trans s1519).trans s20).trans s21, _, _, _, _, rfl⟩
      · obtain ⟨s14, w9, w10, w11, w12, rfl⟩ := hP
        have sAll := (s310.trans s103).trans s14
        exact ⟨sm.trans sAll, sAll _ _ hl0, _, _, _, _, _, _, _, _, _, _, _, rfl⟩
    · obtain ⟨sm, hl0, y2, y3, y4, y5, y6, y7, y8, y9, y10, y11, y12, rfl⟩ := hP
      -- known ones
      refine ⟨by show 3 ≤ sizeLine; decide, fun c1 nc1 => ⟨c1, [0, 2, 1], 4, rfl, upd_same, ⟨by decide, by decide, by decide⟩, by decide, fun H3 b3 s3 nb3 hb3 => ?_⟩⟩
      refine ⟨by show 3 ≤ sizeLine; decide, fun e1 ne1 => ⟨b3, e1, [0, 2, 1], [0, 2, 1], rfl, rfl, hz (l := [0, 2, 1]) (same_upd ne1 _ _ hb3), .of upd_same, _, rfl, iteT ?_⟩⟩
      refine ⟨by show 3 ≤ sizeLine; decide, fun c2 nc2 => ⟨c2, [1, 2, 0], 4, rfl, upd_same, ⟨by decide, by decide, by decide⟩, by decide, fun H4 b4 s4 nb4 hb4 => ?_⟩⟩
      refine ⟨by show 3 ≤ sizeLine; decide, fun e2 ne2 => ⟨b4, e2, [2, 0, 1], [2, 0, 1], rfl, rfl, hz (l := [2, 0, 1]) (same_upd ne2 _ _ hb4), .of upd_same, _, rfl, iteT ?_⟩⟩
      refine ⟨by show 3 ≤ sizeLine; decide, fun c3 nc3 => ⟨c3, [1, 2, 0], 5, rfl, upd_same, ⟨by decide, by decide, by decide⟩, by decide, fun H5 b5 s5 nb5 hb5 => ?_⟩⟩
      exact ⟨by show 3 ≤ sizeLine; decide, fun e3 ne3 => ⟨b5, e3, [1, 0, 2], [1, 0, 2], rfl, rfl, hz (l := [1, 0, 2]) (same_upd ne3 _ _ hb5), .of upd_same, q _⟩⟩
end
end Lw
namespace Lw
open PySem PySem.Spec PyProof.Rows L2 AD
/-! ### what the top has written; the end -/
theorem all_mk {l : PySem.W.OpenLaw} {w : World} {K : PySem.W.Frag} {h : Heap} {mg : Str → Option Value} {fL f0 f1 f2 f3 f4 f5 f6 f7 f8 f9 f10 f11 f12 f13 f14 f15 f16 f17 f18 f19 f20 f21 f22 f23 f24 f25 f26 f27 : Addr}
    {od0 an0 od1 an1 od2 an2 od3 an3 od4 an4 od5 an5 od6 an6 od7 an7 od8 an8 od9 an9 od10 an10 od11 an11 od12 an12 od13 an13 od14 an14 od15 an15 od16 an16 od17 an17 od18 an18 od19 an19 od20 an20 od21 an21 od22 an22 od23 an23 od24 an24 : Option Addr} {sl0 sl1 sl2 sl3 sl4 sl5 sl6 sl7 sl8 sl9 sl10 sl11 sl12 sl13 sl14 sl15 sl16 sl17 sl18 sl19 sl20 sl21 sl22 sl23 sl24 : Array (Option Value)} {oc0 kV0 dc0 pm0 cd0 ct0 oc1 kV1 dc1 pm1 cd1 ct1 oc2 kV2 dc2 pm2 cd2 ct2 oc3 kV3 dc3 pm3 cd3 ct3 oc4 kV4 dc4 pm4 cd4 ct4 oc5 kV5 dc5 pm5 cd5 ct5 oc6 kV6 dc6 pm6 cd6 ct6 oc7 kV7 dc7 pm7 cd7 ct7 oc8 kV8 dc8 pm8 cd8 ct8 oc9 kV9 dc9 pm9 cd9 ct9 oc10 kV10 dc10 pm10 cd10 ct10 oc11 kV11 dc11 pm11 cd11 ct11 oc12 kV12 dc12 pm12 cd12 ct12 oc13 kV13 dc13 pm13 cd13 ct13 oc14 kV14 dc14 pm14 cd14 ct14 oc15 kV15 dc15 pm15 cd15 ct15 oc16 kV16 dc16 pm16 cd16 ct16 oc17 kV17 dc17 pm17 cd17 ct17 oc18 kV18 dc18 pm18 cd18 ct18 oc19 kV19 dc19 pm19 cd19 ct19 oc20 kV20 dc20 pm20 cd20 ct20 oc21 kV21 dc21 pm21 cd21 ct21 oc22 kV22 dc22 pm22 cd22 ct22 oc23 kV23 dc23 pm23 cd23 ct23 oc24 kV24 dc24 pm24 cd24 ct24 : Value} {t_SMALL t_LONGEST : Tok}
    (X : K.In h) (G : h.Ns mainGlobals mg) (hfa : mg "law" = some (.ref fL))
    (ca25 : PySem.W.nsIn K mainGlobals "Answer" = some (some (.ref f25)))
    (cm25 : PySem.W.makesIn K f25 = true)
    (ck25 : PySem.W.keepIn K (.ref f25) = true)
    (ci25 : PySem.W.findIn K (.ref f25) "__init__" = some (some (.builtin "object.__init__")))
    (cg25 : PySem.W.plainGet K f25 Str.empty = true)
    (ch25 : PySem.W.hasDictIn K f25 = true)
    (cp25 : PySem.W.plainOver K f25 = true)
    (cs25 : PySem.W.findIn K (.ref f25) "__setattr__" = some (some (.builtin "object.__setattr__")))
    (cc25 : PySem.W.findIn K (.ref f25) "__class__" = some (some (.builtin "object.__class__")))
    (cx25 : PySem.W.mroIn K f25 (.type "object") = some true)
    (cl25 : PySem.W.isClsIn K f25 = true)
    (ct25 : PySem.W.typeIn K (.ref f25) = some (.type "type"))
    (cu25_25 : PySem.W.subIn K (.ref f25) (.ref f25) = some true)
    (cu26_25 : PySem.W.subIn K (.ref f25) (.ref f26) = some false)
    (cu27_25 : PySem.W.subIn K (.ref f25) (.ref f27) = some false)
    (ca26 : PySem.W.nsIn K mainGlobals "Apart" = some (some (.ref f26)))
    (cm26 : PySem.W.makesIn K f26 = true)
    (ck26 : PySem.W.keepIn K (.ref f26) = true)
    (ci26 : PySem.W.findIn K (.ref f26) "__init__" = some (some (.builtin "object.__init__")))
    (cg26 : PySem.W.plainGet K f26 Str.empty = true)
    (ch26 : PySem.W.hasDictIn K f26 = true)
    (cp26 : PySem.W.plainOver K f26 = true)
    (cs26 : PySem.W.findIn K (.ref f26) "__setattr__" = some (some (.builtin "object.__setattr__")))
    (cc26 : PySem.W.findIn K (.ref f26) "__class__" = some (some (.builtin "object.__class__")))
    (cx26 : PySem.W.mroIn K f26 (.type "object") = some true)
    (cl26 : PySem.W.isClsIn K f26 = true)
    (ct26 : PySem.W.typeIn K (.ref f26) = some (.type "type"))
    (cu25_26 : PySem.W.subIn K (.ref f26) (.ref f25) = some true)
    (cu26_26 : PySem.W.subIn K (.ref f26) (.ref f26) = some true)
    (cu27_26 : PySem.W.subIn K (.ref f26) (.ref f27) = some false)
    (ca27 : PySem.W.nsIn K mainGlobals "Same" = some (some (.ref f27)))
    (cm27 : PySem.W.makesIn K f27 = true)
    (ck27 : PySem.W.keepIn K (.ref f27) = true)
    (cg27 : PySem.W.plainGet K f27 Str.empty = true)
    (ch27 : PySem.W.hasDictIn K f27 = true)
    (cp27 : PySem.W.plainOver K f27 = true)
    (cs27 : PySem.W.findIn K (.ref f27) "__setattr__" = some (some (.builtin "object.__setattr__")))
    (cc27 : PySem.W.findIn K (.ref f27) "__class__" = some (some (.builtin "object.__class__")))
    (cx27 : PySem.W.mroIn K f27 (.type "object") = some true)
    (cl27 : PySem.W.isClsIn K f27 = true)
    (ct27 : PySem.W.typeIn K (.ref f27) = some (.type "type"))
    (cn_first_27 : PySem.W.findIn K (.ref f27) "first" = some none)
    (cn_second_27 : PySem.W.findIn K (.ref f27) "second" = some none)
    (cn_across_27 : PySem.W.findIn K (.ref f27) "across" = some none)
    (cu25_27 : PySem.W.subIn K (.ref f27) (.ref f25) = some true)
    (cu26_27 : PySem.W.subIn K (.ref f27) (.ref f26) = some false)
    (cu27_27 : PySem.W.subIn K (.ref f27) (.ref f27) = some true)
    (cy : PySem.W.specialIn K (.builtin "object.__class__") "__get__" = some (some (.builtin "getset_descriptor.__get__")))
    (cz : PySem.W.takesIn K (.builtin "object.__class__") = some true)
    (z_abs : PySem.W.nsIn K mainGlobals "abs" = some none)
    (z_all : PySem.W.nsIn K mainGlobals "all" = some none)
    (z_bool : PySem.W.nsIn K mainGlobals "bool" = some none)
    (z_enumerate : PySem.W.nsIn K mainGlobals "enumerate" = some none)
    (z_int : PySem.W.nsIn K mainGlobals "int" = some none)
    (z_isinstance : PySem.W.nsIn K mainGlobals "isinstance" = some none)
    (z_len : PySem.W.nsIn K mainGlobals "len" = some none)
    (z_list : PySem.W.nsIn K mainGlobals "list" = some none)
    (z_range : PySem.W.nsIn K mainGlobals "range" = some none)
    (z_set : PySem.W.nsIn K mainGlobals "set" = some none)
    (z_sorted : PySem.W.nsIn K mainGlobals "sorted" = some none)
    (z_sum : PySem.W.nsIn K mainGlobals "sum" = some none)
    (y_SMALL : PySem.W.nsIn K mainGlobals "SMALL" = some (some (.int 61 t_SMALL)))
    (y_LONGEST : PySem.W.nsIn K mainGlobals "LONGEST" = some (some (.int 60 t_LONGEST)))
    (a0 : PySem.W.nsIn K mainGlobals "first_same" = some (some (.ref f0)))
    (l0 : K.lookup f0 = some ⟨oc0, od0, .func (PySem.W.fnOf "first_same" "first_same" (defArgs s_first_same) (defBody s_first_same) (defScope s_first_same) .none kV0 dc0 pm0 an0 cd0 ct0), sl0⟩)
    (c0 : PySem.W.codeIn K cd0 "first_same" = true)
    (k0 : PySem.W.keepIn K (.ref f0) = true)
    (a1 : PySem.W.findIn K (.ref f27) "__init__" = some (some (.ref f1)))
    (i1 : PySem.W.isFn K (.ref f1) = true)
    (l1 : K.lookup f1 = some ⟨oc1, od1, .func (PySem.W.fnOf "__init__" "Same.__init__" (defArgs s_Same_init) (defBody s_Same_init) (defScope s_Same_init) .none kV1 dc1 pm1 an1 cd1 ct1), sl1⟩)
    (c1 : PySem.W.codeIn K cd1 "Same.__init__" = true)
    (k1 : PySem.W.keepIn K (.ref f1) = true)
    (a2 : PySem.W.nsIn K mainGlobals "is_whole" = some (some (.ref f2)))
    (l2 : K.lookup f2 = some ⟨oc2, od2, .func (PySem.W.fnOf "is_whole" "is_whole" (defArgs s_is_whole) (defBody s_is_whole) (defScope s_is_whole) .none kV2 dc2 pm2 an2 cd2 ct2), sl2⟩)
    (c2 : PySem.W.codeIn K cd2 "is_whole" = true)
    (k2 : PySem.W.keepIn K (.ref f2) = true)
    (a3 : PySem.W.nsIn K mainGlobals "is_prime" = some (some (.ref f3)))
    (l3 : K.lookup f3 = some ⟨oc3, od3, .func (PySem.W.fnOf "is_prime" "is_prime" (defArgs s_is_prime) (defBody s_is_prime) (defScope s_is_prime) .none kV3 dc3 pm3 an3 cd3 ct3), sl3⟩)
    (c3 : PySem.W.codeIn K cd3 "is_prime" = true)
    (k3 : PySem.W.keepIn K (.ref f3) = true)
    (a4 : PySem.W.nsIn K mainGlobals "asked_prime" = some (some (.ref f4)))
    (l4 : K.lookup f4 = some ⟨oc4, od4, .func (PySem.W.fnOf "asked_prime" "asked_prime" (defArgs s_asked_prime) (defBody s_asked_prime) (defScope s_asked_prime) .none kV4 dc4 pm4 an4 cd4 ct4), sl4⟩)
    (c4 : PySem.W.codeIn K cd4 "asked_prime" = true)
    (k4 : PySem.W.keepIn K (.ref f4) = true)
    (a5 : PySem.W.nsIn K mainGlobals "power" = some (some (.ref f5)))
    (l5 : K.lookup f5 = some ⟨oc5, od5, .func (PySem.W.fnOf "power" "power" (defArgs s_power) (defBody s_power) (defScope s_power) .none kV5 dc5 pm5 an5 cd5 ct5), sl5⟩)
    (c5 : PySem.W.codeIn K cd5 "power" = true)
    (k5 : PySem.W.keepIn K (.ref f5) = true)
    (a6 : PySem.W.nsIn K mainGlobals "root_of" = some (some (.ref f6)))
    (l6 : K.lookup f6 = some ⟨oc6, od6, .func (PySem.W.fnOf "root_of" "root_of" (defArgs s_root_of) (defBody s_root_of) (defScope s_root_of) .none kV6 dc6 pm6 an6 cd6 ct6), sl6⟩)
    (c6 : PySem.W.codeIn K cd6 "root_of" = true)
    (k6 : PySem.W.keepIn K (.ref f6) = true)
    (a7 : PySem.W.nsIn K mainGlobals "asked_root" = some (some (.ref f7)))
    (l7 : K.lookup f7 = some ⟨oc7, od7, .func (PySem.W.fnOf "asked_root" "asked_root" (defArgs s_asked_root) (defBody s_asked_root) (defScope s_asked_root) .none kV7 dc7 pm7 an7 cd7 ct7), sl7⟩)
    (c7 : PySem.W.codeIn K cd7 "asked_root" = true)
    (k7 : PySem.W.keepIn K (.ref f7) = true)
    (a8 : PySem.W.nsIn K mainGlobals "asked_dots" = some (some (.ref f8)))
    (l8 : K.lookup f8 = some ⟨oc8, od8, .func (PySem.W.fnOf "asked_dots" "asked_dots" (defArgs s_asked_dots) (defBody s_asked_dots) (defScope s_asked_dots) .none kV8 dc8 pm8 an8 cd8 ct8), sl8⟩)
    (c8 : PySem.W.codeIn K cd8 "asked_dots" = true)
    (k8 : PySem.W.keepIn K (.ref f8) = true)
    (a9 : PySem.W.nsIn K mainGlobals "judged" = some (some (.ref f9)))
    (l9 : K.lookup f9 = some ⟨oc9, od9, .func (PySem.W.fnOf "judged" "judged" (defArgs s_judged) (defBody s_judged) (defScope s_judged) .none kV9 dc9 pm9 an9 cd9 ct9), sl9⟩)
    (c9 : PySem.W.codeIn K cd9 "judged" = true)
    (k9 : PySem.W.keepIn K (.ref f9) = true)
    (a10 : PySem.W.nsIn K mainGlobals "turned" = some (some (.ref f10)))
    (l10 : K.lookup f10 = some ⟨oc10, od10, .func (PySem.W.fnOf "turned" "turned" (defArgs s_turned) (defBody s_turned) (defScope s_turned) .none kV10 dc10 pm10 an10 cd10 ct10), sl10⟩)
    (c10 : PySem.W.codeIn K cd10 "turned" = true)
    (k10 : PySem.W.keepIn K (.ref f10) = true)
    (a11 : PySem.W.nsIn K mainGlobals "without_corner" = some (some (.ref f11)))
    (l11 : K.lookup f11 = some ⟨oc11, od11, .func (PySem.W.fnOf "without_corner" "without_corner" (defArgs s_without_corner) (defBody s_without_corner) (defScope s_without_corner) .none kV11 dc11 pm11 an11 cd11 ct11), sl11⟩)
    (c11 : PySem.W.codeIn K cd11 "without_corner" = true)
    (k11 : PySem.W.keepIn K (.ref f11) = true)
    (a12 : PySem.W.nsIn K mainGlobals "asked_plan" = some (some (.ref f12)))
    (l12 : K.lookup f12 = some ⟨oc12, od12, .func (PySem.W.fnOf "asked_plan" "asked_plan" (defArgs s_asked_plan) (defBody s_asked_plan) (defScope s_asked_plan) .none kV12 dc12 pm12 an12 cd12 ct12), sl12⟩)
    (c12 : PySem.W.codeIn K cd12 "asked_plan" = true)
    (k12 : PySem.W.keepIn K (.ref f12) = true)
    (a13 : PySem.W.nsIn K mainGlobals "dots_of" = some (some (.ref f13)))
    (l13 : K.lookup f13 = some ⟨oc13, od13, .func (PySem.W.fnOf "dots_of" "dots_of" (defArgs s_dots_of) (defBody s_dots_of) (defScope s_dots_of) .none kV13 dc13 pm13 an13 cd13 ct13), sl13⟩)
    (c13 : PySem.W.codeIn K cd13 "dots_of" = true)
    (k13 : PySem.W.keepIn K (.ref f13) = true)
    (a14 : PySem.W.nsIn K mainGlobals "_law_number" = some (some (.ref f14)))
    (l14 : K.lookup f14 = some ⟨oc14, od14, .func (PySem.W.fnOf "_law_number" "_law_number" (defArgs s__law_number) (defBody s__law_number) (defScope s__law_number) .none kV14 dc14 pm14 an14 cd14 ct14), sl14⟩)
    (c14 : PySem.W.codeIn K cd14 "_law_number" = true)
    (k14 : PySem.W.keepIn K (.ref f14) = true)
    (a15 : PySem.W.nsIn K mainGlobals "_law_prime" = some (some (.ref f15)))
    (l15 : K.lookup f15 = some ⟨oc15, od15, .func (PySem.W.fnOf "_law_prime" "_law_prime" (defArgs s__law_prime) (defBody s__law_prime) (defScope s__law_prime) .none kV15 dc15 pm15 an15 cd15 ct15), sl15⟩)
    (c15 : PySem.W.codeIn K cd15 "_law_prime" = true)
    (k15 : PySem.W.keepIn K (.ref f15) = true)
    (a16 : PySem.W.nsIn K mainGlobals "_law_powers" = some (some (.ref f16)))
    (l16 : K.lookup f16 = some ⟨oc16, od16, .func (PySem.W.fnOf "_law_powers" "_law_powers" (defArgs s__law_powers) (defBody s__law_powers) (defScope s__law_powers) .none kV16 dc16 pm16 an16 cd16 ct16), sl16⟩)
    (c16 : PySem.W.codeIn K cd16 "_law_powers" = true)
    (k16 : PySem.W.keepIn K (.ref f16) = true)
    (a17 : PySem.W.nsIn K mainGlobals "_law_root" = some (some (.ref f17)))
    (l17 : K.lookup f17 = some ⟨oc17, od17, .func (PySem.W.fnOf "_law_root" "_law_root" (defArgs s__law_root) (defBody s__law_root) (defScope s__law_root) .none kV17 dc17 pm17 an17 cd17 ct17), sl17⟩)
    (c17 : PySem.W.codeIn K cd17 "_law_root" = true)
    (k17 : PySem.W.keepIn K (.ref f17) = true)
    (a18 : PySem.W.nsIn K mainGlobals "_law_plan" = some (some (.ref f18)))
    (l18 : K.lookup f18 = some ⟨oc18, od18, .func (PySem.W.fnOf "_law_plan" "_law_plan" (defArgs s__law_plan) (defBody s__law_plan) (defScope s__law_plan) .none kV18 dc18 pm18 an18 cd18 ct18), sl18⟩)
    (c18 : PySem.W.codeIn K cd18 "_law_plan" = true)
    (k18 : PySem.W.keepIn K (.ref f18) = true)
    (a19 : PySem.W.nsIn K mainGlobals "_law_arrows" = some (some (.ref f19)))
    (l19 : K.lookup f19 = some ⟨oc19, od19, .func (PySem.W.fnOf "_law_arrows" "_law_arrows" (defArgs s__law_arrows) (defBody s__law_arrows) (defScope s__law_arrows) .none kV19 dc19 pm19 an19 cd19 ct19), sl19⟩)
    (c19 : PySem.W.codeIn K cd19 "_law_arrows" = true)
    (k19 : PySem.W.keepIn K (.ref f19) = true)
    (a20 : PySem.W.nsIn K mainGlobals "_law_apart" = some (some (.ref f20)))
    (l20 : K.lookup f20 = some ⟨oc20, od20, .func (PySem.W.fnOf "_law_apart" "_law_apart" (defArgs s__law_apart) (defBody s__law_apart) (defScope s__law_apart) .none kV20 dc20 pm20 an20 cd20 ct20), sl20⟩)
    (c20 : PySem.W.codeIn K cd20 "_law_apart" = true)
    (k20 : PySem.W.keepIn K (.ref f20) = true)
    (a21 : PySem.W.nsIn K mainGlobals "_law_order" = some (some (.ref f21)))
    (l21 : K.lookup f21 = some ⟨oc21, od21, .func (PySem.W.fnOf "_law_order" "_law_order" (defArgs s__law_order) (defBody s__law_order) (defScope s__law_order) .none kV21 dc21 pm21 an21 cd21 ct21), sl21⟩)
    (c21 : PySem.W.codeIn K cd21 "_law_order" = true)
    (k21 : PySem.W.keepIn K (.ref f21) = true)
    (a22 : PySem.W.nsIn K mainGlobals "_law_place" = some (some (.ref f22)))
    (l22 : K.lookup f22 = some ⟨oc22, od22, .func (PySem.W.fnOf "_law_place" "_law_place" (defArgs s__law_place) (defBody s__law_place) (defScope s__law_place) .none kV22 dc22 pm22 an22 cd22 ct22), sl22⟩)
    (c22 : PySem.W.codeIn K cd22 "_law_place" = true)
    (k22 : PySem.W.keepIn K (.ref f22) = true)
    (a23 : PySem.W.nsIn K mainGlobals "_law_right" = some (some (.ref f23)))
    (l23 : K.lookup f23 = some ⟨oc23, od23, .func (PySem.W.fnOf "_law_right" "_law_right" (defArgs s__law_right) (defBody s__law_right) (defScope s__law_right) .none kV23 dc23 pm23 an23 cd23 ct23), sl23⟩)
    (c23 : PySem.W.codeIn K cd23 "_law_right" = true)
    (k23 : PySem.W.keepIn K (.ref f23) = true)
    (a24 : PySem.W.nsIn K mainGlobals "law" = some (some (.ref f24)))
    (l24 : K.lookup f24 = some ⟨oc24, od24, .func (PySem.W.fnOf "law" "law" (defArgs s_law) (defBody s_law) (defScope s_law) .none kV24 dc24 pm24 an24 cd24 ct24), sl24⟩)
    (c24 : PySem.W.codeIn K cd24 "law" = true)
    (k24 : PySem.W.keepIn K (.ref f24) = true)
    : ∃ fd : FuncData, (∀ (s : Shared) (v : Value), BindsTo s fd ⟨[v], []⟩ [("_law_script", v)]) ∧ ∀ base : Heap, K.In base → base.Ns mainGlobals mg → FnOk l.prog w K mg base CX0 6 fL fd ["_law_script"] (spLaw K) := by
  have e := hfa.symm.trans (PySem.W.mg_of X G a24)
  cases e
  have F0 := fun_mk (st := s_first_same) l0 c0 k0
  have b0 := F0.binds (ps := ["dots"]) fun _ _ _ _ _ _ us hl => match us, hl with | [_], _ => rfl
  have F1 := fun_mk (st := s_Same_init) l1 c1 k1
  have b1 := F1.binds (ps := ["self", "first", "second", "across"]) fun _ _ _ _ _ _ us hl => match us, hl with | [_, _, _, _], _ => rfl
  have F2 := fun_mk (st := s_is_whole) l2 c2 k2
  have b2 := F2.binds (ps := ["thing"]) fun _ _ _ _ _ _ us hl => match us, hl with | [_], _ => rfl
  have F3 := fun_mk (st := s_is_prime) l3 c3 k3
  have b3 := F3.binds (ps := ["number"]) fun _ _ _ _ _ _ us hl => match us, hl with | [_], _ => rfl
  have F4 := fun_mk (st := s_asked_prime) l4 c4 k4
  have b4 := F4.binds (ps := ["prime", "most"]) fun _ _ _ _ _ _ us hl => match us, hl with | [_, _], _ => rfl
  have F5 := fun_mk (st := s_power) l5 c5 k5
  have b5 := F5.binds (ps := ["number", "times", "prime"]) fun _ _ _ _ _ _ us hl => match us, hl with | [_, _, _], _ => rfl
  have F6 := fun_mk (st := s_root_of) l6 c6 k6
  have b6 := F6.binds (ps := ["prime", "number"]) fun _ _ _ _ _ _ us hl => match us, hl with | [_, _], _ => rfl
  have F7 := fun_mk (st := s_asked_root) l7 c7 k7
  have b7 := F7.binds (ps := ["prime", "root"]) fun _ _ _ _ _ _ us hl => match us, hl with | [_, _], _ => rfl
  have F8 := fun_mk (st := s_asked_dots) l8 c8 k8
  have b8 := F8.binds (ps := ["dots"]) fun _ _ _ _ _ _ us hl => match us, hl with | [_], _ => rfl
  have F9 := fun_mk (st := s_judged) l9 c9 k9
  have b9 := F9.binds (ps := ["dots"]) fun _ _ _ _ _ _ us hl => match us, hl with | [_], _ => rfl
  have F10 := fun_mk (st := s_turned) l10 c10 k10
  have b10 := F10.binds (ps := ["dots", "way"]) fun _ _ _ _ _ _ us hl => match us, hl with | [_, _], _ => rfl
  have F11 := fun_mk (st := s_without_corner) l11 c11 k11
  have b11 := F11.binds (ps := ["dots"]) fun _ _ _ _ _ _ us hl => match us, hl with | [_], _ => rfl
  have F12 := fun_mk (st := s_asked_plan) l12 c12 k12
  have b12 := F12.binds (ps := ["prime", "root", "begin", "most"]) fun _ _ _ _ _ _ us hl => match us, hl with | [_, _, _, _], _ => rfl
  have F13 := fun_mk (st := s_dots_of) l13 c13 k13
  have b13 := F13.binds (ps := ["prime", "root", "begin"]) fun _ _ _ _ _ _ us hl => match us, hl with | [_, _, _], _ => rfl
  have F14 := fun_mk (st := s__law_number) l14 c14 k14
  have b14 := F14.binds (ps := ["_law_cell", "_law_at", "_law_whole"]) fun _ _ _ _ _ _ us hl => match us, hl with | [_, _, _], _ => rfl
  have F15 := fun_mk (st := s__law_prime) l15 c15 k15
  have b15 := F15.binds (ps := ["_law_number_here"]) fun _ _ _ _ _ _ us hl => match us, hl with | [_], _ => rfl
  have F16 := fun_mk (st := s__law_powers) l16 c16 k16
  have b16 := F16.binds (ps := ["_law_prime_here", "_law_number_here"]) fun _ _ _ _ _ _ us hl => match us, hl with | [_, _], _ => rfl
  have F17 := fun_mk (st := s__law_root) l17 c17 k17
  have b17 := F17.binds (ps := ["_law_prime_here", "_law_number_here"]) fun _ _ _ _ _ _ us hl => match us, hl with | [_, _], _ => rfl
  have F18 := fun_mk (st := s__law_plan) l18 c18 k18
  have b18 := F18.binds (ps := ["_law_script", "_law_by"]) fun _ _ _ _ _ _ us hl => match us, hl with | [_, _], _ => rfl
  have F19 := fun_mk (st := s__law_arrows) l19 c19 k19
  have b19 := F19.binds (ps := ["_law_dots"]) fun _ _ _ _ _ _ us hl => match us, hl with | [_], _ => rfl
  have F20 := fun_mk (st := s__law_apart) l20 c20 k20
  have b20 := F20.binds (ps := ["_law_dots"]) fun _ _ _ _ _ _ us hl => match us, hl with | [_], _ => rfl
  have F21 := fun_mk (st := s__law_order) l21 c21 k21
  have b21 := F21.binds (ps := ["_law_script", "_law_by", "_law_many"]) fun _ _ _ _ _ _ us hl => match us, hl with | [_, _, _], _ => rfl
  have F22 := fun_mk (st := s__law_place) l22 c22 k22
  have b22 := F22.binds (ps := ["_law_many", "_law_way", "_law_column", "_law_row"]) fun _ _ _ _ _ _ us hl => match us, hl with | [_, _, _, _], _ => rfl
  have F23 := fun_mk (st := s__law_right) l23 c23 k23
  have b23 := F23.binds (ps := ["_law_dots"]) fun _ _ _ _ _ _ us hl => match us, hl with | [_], _ => rfl
  have F24 := fun_mk (st := s_law) l24 c24 k24
  have b24 := F24.binds (ps := ["_law_script"]) fun _ _ _ _ _ _ us hl => match us, hl with | [_], _ => rfl
  have T : Txt K mg (fun i => [f0, f1, f2, f3, f4, f5, f6, f7, f8, f9, f10, f11, f12, f13, f14, f15, f16, f17, f18, f19, f20, f21, f22, f23, fL, f25, f26, f27, 0, 0, 0, 0, 0, 0, 0].getD i 0) (fun i => [PySem.W.fnOf "first_same" "first_same" (defArgs s_first_same) (defBody s_first_same) (defScope s_first_same) .none kV0 dc0 pm0 an0 cd0 ct0,
      PySem.W.fnOf "__init__" "Same.__init__" (defArgs s_Same_init) (defBody s_Same_init) (defScope s_Same_init) .none kV1 dc1 pm1 an1 cd1 ct1,
      PySem.W.fnOf "is_whole" "is_whole" (defArgs s_is_whole) (defBody s_is_whole) (defScope s_is_whole) .none kV2 dc2 pm2 an2 cd2 ct2,
      PySem.W.fnOf "is_prime" "is_prime" (defArgs s_is_prime) (defBody s_is_prime) (defScope s_is_prime) .none kV3 dc3 pm3 an3 cd3 ct3,
      PySem.W.fnOf "asked_prime" "asked_prime" (defArgs s_asked_prime) (defBody s_asked_prime) (defScope s_asked_prime) .none kV4 dc4 pm4 an4 cd4 ct4,
      PySem.W.fnOf "power" "power" (defArgs s_power) (defBody s_power) (defScope s_power) .none kV5 dc5 pm5 an5 cd5 ct5,
      PySem.W.fnOf "root_of" "root_of" (defArgs s_root_of) (defBody s_root_of) (defScope s_root_of) .none kV6 dc6 pm6 an6 cd6 ct6,
      PySem.W.fnOf "asked_root" "asked_root" (defArgs s_asked_root) (defBody s_asked_root) (defScope s_asked_root) .none kV7 dc7 pm7 an7 cd7 ct7,
      PySem.W.fnOf "asked_dots" "asked_dots" (defArgs s_asked_dots) (defBody s_asked_dots) (defScope s_asked_dots) .none kV8 dc8 pm8 an8 cd8 ct8,
      PySem.W.fnOf "judged" "judged" (defArgs s_judged) (defBody s_judged) (defScope s_judged) .none kV9 dc9 pm9 an9 cd9 ct9,
      PySem.W.fnOf "turned" "turned" (defArgs s_turned) (defBody s_turned) (defScope s_turned) .none kV10 dc10 pm10 an10 cd10 ct10,
      PySem.W.fnOf "without_corner" "without_corner" (defArgs s_without_corner) (defBody s_without_corner) (defScope s_without_corner) .none kV11 dc11 pm11 an11 cd11 ct11,
      PySem.W.fnOf "asked_plan" "asked_plan" (defArgs s_asked_plan) (defBody s_asked_plan) (defScope s_asked_plan) .none kV12 dc12 pm12 an12 cd12 ct12,
      PySem.W.fnOf "dots_of" "dots_of" (defArgs s_dots_of) (defBody s_dots_of) (defScope s_dots_of) .none kV13 dc13 pm13 an13 cd13 ct13,
      PySem.W.fnOf "_law_number" "_law_number" (defArgs s__law_number) (defBody s__law_number) (defScope s__law_number) .none kV14 dc14 pm14 an14 cd14 ct14,
      PySem.W.fnOf "_law_prime" "_law_prime" (defArgs s__law_prime) (defBody s__law_prime) (defScope s__law_prime) .none kV15 dc15 pm15 an15 cd15 ct15,
      PySem.W.fnOf "_law_powers" "_law_powers" (defArgs s__law_powers) (defBody s__law_powers) (defScope s__law_powers) .none kV16 dc16 pm16 an16 cd16 ct16,
      PySem.W.fnOf "_law_root" "_law_root" (defArgs s__law_root) (defBody s__law_root) (defScope s__law_root) .none kV17 dc17 pm17 an17 cd17 ct17,
      PySem.W.fnOf "_law_plan" "_law_plan" (defArgs s__law_plan) (defBody s__law_plan) (defScope s__law_plan) .none kV18 dc18 pm18 an18 cd18 ct18,
      PySem.W.fnOf "_law_arrows" "_law_arrows" (defArgs s__law_arrows) (defBody s__law_arrows) (defScope s__law_arrows) .none kV19 dc19 pm19 an19 cd19 ct19,
      PySem.W.fnOf "_law_apart" "_law_apart" (defArgs s__law_apart) (defBody s__law_apart) (defScope s__law_apart) .none kV20 dc20 pm20 an20 cd20 ct20,
      PySem.W.fnOf "_law_order" "_law_order" (defArgs s__law_order) (defBody s__law_order) (defScope s__law_order) .none kV21 dc21 pm21 an21 cd21 ct21,
      PySem.W.fnOf "_law_place" "_law_place" (defArgs s__law_place) (defBody s__law_place) (defScope s__law_place) .none kV22 dc22 pm22 an22 cd22 ct22,
      PySem.W.fnOf "_law_right" "_law_right" (defArgs s__law_right) (defBody s__law_right) (defScope s__law_right) .none kV23 dc23 pm23 an23 cd23 ct23,
      PySem.W.fnOf "law" "law" (defArgs s_law) (defBody s_law) (defScope s_law) .none kV24 dc24 pm24 an24 cd24 ct24].getD i (PySem.W.fnOf "first_same" "first_same" (defArgs s_first_same) (defBody s_first_same) (defScope s_first_same) .none kV0 dc0 pm0 an0 cd0 ct0)) (fun i => [t_SMALL, t_LONGEST].getD i default) := {
    m_abs := PySem.W.mg_none_of X G z_abs
    m_all := PySem.W.mg_none_of X G z_all
    m_bool := PySem.W.mg_none_of X G z_bool
    m_enumerate := PySem.W.mg_none_of X G z_enumerate
    m_int := PySem.W.mg_none_of X G z_int
    m_isinstance := PySem.W.mg_none_of X G z_isinstance
    m_len := PySem.W.mg_none_of X G z_len
    m_list := PySem.W.mg_none_of X G z_list
    m_range := PySem.W.mg_none_of X G z_range
    m_set := PySem.W.mg_none_of X G z_set
    m_sorted := PySem.W.mg_none_of X G z_sorted
    m_sum := PySem.W.mg_none_of X G z_sum
    g_SMALL := PySem.W.mg_of X G y_SMALL
    g_LONGEST := PySem.W.mg_of X G y_LONGEST
    g_Answer := PySem.W.mg_of X G ca25
    mk_Answer := ⟨cm25, ci25, ck25⟩
    in_Answer := ⟨⟨cg25, ch25, cp25, cs25⟩, cc25, cy, cz, cx25⟩
    ki_Answer_Answer := kit_own cl25 ct25 cu25_25 cu25_25
    ki_Answer_Apart := kit_own cl26 ct26 cu26_25 cu26_26
    ki_Answer_Same := kit_own cl27 ct27 cu27_25 cu27_27
    g_Apart := PySem.W.mg_of X G ca26
    mk_Apart := ⟨cm26, ci26, ck26⟩
    in_Apart := ⟨⟨cg26, ch26, cp26, cs26⟩, cc26, cy, cz, cx26⟩
    ki_Apart_Answer := kit_own cl25 ct25 cu25_26 cu25_25
    ki_Apart_Apart := kit_own cl26 ct26 cu26_26 cu26_26
    ki_Apart_Same := kit_own cl27 ct27 cu27_26 cu27_27
    g_Same := PySem.W.mg_of X G ca27
    mk_Same := ⟨cm27, a1, i1, ck27⟩
    in_Same := ⟨⟨cg27, ch27, cp27, cs27⟩, cc27, cy, cz, cx27⟩
    na_Same_first := cn_first_27
    na_Same_second := cn_second_27
    na_Same_across := cn_across_27
    ki_Same_Answer := kit_own cl25 ct25 cu25_27 cu25_25
    ki_Same_Apart := kit_own cl26 ct26 cu26_27 cu26_26
    ki_Same_Same := kit_own cl27 ct27 cu27_27 cu27_27
    g_first_same := PySem.W.mg_of X G a0, F_first_same := F0, b_first_same := b0
    F_Same_init := F1, b_Same_init := b1
    g_is_whole := PySem.W.mg_of X G a2, F_is_whole := F2, b_is_whole := b2
    g_is_prime := PySem.W.mg_of X G a3, F_is_prime := F3, b_is_prime := b3
    g_asked_prime := PySem.W.mg_of X G a4, F_asked_prime := F4, b_asked_prime := b4
    g_power := PySem.W.mg_of X G a5, F_power := F5, b_power := b5
    g_root_of := PySem.W.mg_of X G a6, F_root_of := F6, b_root_of := b6
    g_asked_root := PySem.W.mg_of X G a7, F_asked_root := F7, b_asked_root := b7
    g_asked_dots := PySem.W.mg_of X G a8, F_asked_dots := F8, b_asked_dots := b8
    g_judged := PySem.W.mg_of X G a9, F_judged := F9, b_judged := b9
    g_turned := PySem.W.mg_of X G a10, F_turned := F10, b_turned := b10
    g_without_corner := PySem.W.mg_of X G a11, F_without_corner := F11, b_without_corner := b11
    g_asked_plan := PySem.W.mg_of X G a12, F_asked_plan := F12, b_asked_plan := b12
    g_dots_of := PySem.W.mg_of X G a13, F_dots_of := F13, b_dots_of := b13
    g__law_number := PySem.W.mg_of X G a14, F__law_number := F14, b__law_number := b14
    g__law_prime := PySem.W.mg_of X G a15, F__law_prime := F15, b__law_prime := b15
    g__law_powers := PySem.W.mg_of X G a16, F__law_powers := F16, b__law_powers := b16
    g__law_root := PySem.W.mg_of X G a17, F__law_root := F17, b__law_root := b17
    g__law_plan := PySem.W.mg_of X G a18, F__law_plan := F18, b__law_plan := b18
    g__law_arrows := PySem.W.mg_of X G a19, F__law_arrows := F19, b__law_arrows := b19
    g__law_apart := PySem.W.mg_of X G a20, F__law_apart := F20, b__law_apart := b20
    g__law_order := PySem.W.mg_of X G a21, F__law_order := F21, b__law_order := b21
    g__law_place := PySem.W.mg_of X G a22, F__law_place := F22, b__law_place := b22
    g__law_right := PySem.W.mg_of X G a23, F__law_right := F23, b__law_right := b23
    g_law := PySem.W.mg_of X G a24, F_law := F24, b_law := b24
  }
  exact ⟨PySem.W.fnOf "law" "law" (defArgs s_law) (defBody s_law) (defScope s_law) .none kV24 dc24 pm24 an24 cd24 ct24, fun s v => .of_eq rfl, fun base _ _ => ok_law T⟩
end Lw
open PySem PySem.W PyProof.Rows
set_option maxHeartbeats 0 in
theorem PySem.Challenge.cw_arrowdots_k06_whole_turned_holds : PySem.Challenge.rw_arrowdots_k06_whole_turned.Holds := by
  w_on; o_law; k_head; (case hw => w_witness2)
  k_fill
  refine L2.walk_ofB (l := PySem.Challenge.rw_arrowdots_k06_whole_turned) (n := 63) (k := 6) (x := "_law_script") (CX := fun _ => L2.CX0) (sp := fun w => Lw.spLaw _) rfl (by decide) rfl ⟨rfl, by decide, by decide⟩ (fun w h Y => PySem.W.kIn_of Y) ?F (fun _ _ a ns hl hb _ hS => ⟨a, ns, rfl, hS, hl, hb, fun _ => rfl⟩) (fun _ _ _ _ _ h => h)
  case F =>
    intro w mg fa h KX G hmg
    refine' Lw.all_mk KX G hmg ?ca25 ?cm25 ?ck25 ?ci25 ?cg25 ?ch25 ?cp25 ?cs25 ?cc25 ?cx25 ?cl25 ?ct25 ?cu25_25 ?cu26_25 ?cu27_25 ?ca26 ?cm26 ?ck26 ?ci26 ?cg26 ?ch26 ?cp26 ?cs26 ?cc26 ?cx26 ?cl26 ?ct26 ?cu25_26 ?cu26_26 ?cu27_26 ?ca27 ?cm27 ?ck27 ?cg27 ?ch27 ?cp27 ?cs27 ?cc27 ?cx27 ?cl27 ?ct27 ?cn_first_27 ?cn_second_27 ?cn_across_27 ?cu25_27 ?cu26_27 ?cu27_27 ?cy ?cz ?z_abs ?z_all ?z_bool ?z_enumerate ?z_int ?z_isinstance ?z_len ?z_list ?z_range ?z_set ?z_sorted ?z_sum ?y_SMALL ?y_LONGEST ?a0 ?l0 ?c0 ?k0 ?i1 ?a1 ?l1 ?c1 ?k1 ?a2 ?l2 ?c2 ?k2 ?a3 ?l3 ?c3 ?k3 ?a4 ?l4 ?c4 ?k4 ?a5 ?l5 ?c5 ?k5 ?a6 ?l6 ?c6 ?k6 ?a7 ?l7 ?c7 ?k7 ?a8 ?l8 ?c8 ?k8 ?a9 ?l9 ?c9 ?k9 ?a10 ?l10 ?c10 ?k10 ?a11 ?l11 ?c11 ?k11 ?a12 ?l12 ?c12 ?k12 ?a13 ?l13 ?c13 ?k13 ?a14 ?l14 ?c14 ?k14 ?a15 ?l15 ?c15 ?k15 ?a16 ?l16 ?c16 ?k16 ?a17 ?l17 ?c17 ?k17 ?a18 ?l18 ?c18 ?k18 ?a19 ?l19 ?c19 ?k19 ?a20 ?l20 ?c20 ?k20 ?a21 ?l21 ?c21 ?k21 ?a22 ?l22 ?c22 ?k22 ?a23 ?l23 ?c23 ?k23 ?a24 ?l24 ?c24 ?k24
    (case ca25 => k_is)
    (case ca26 => k_is)
    (case ca27 => k_is)
    (case cm25 => k_is)
    (case ck25 => k_is)
    (case ci25 => k_is)
    (case cg25 => k_is)
    (case ch25 => k_is)
    (case cp25 => k_is)
    (case cs25 => k_is)
    (case cc25 => k_is)
    (case cx25 => k_is)
    (case cl25 => k_is)
    (case ct25 => k_is)
    (case cu25_25 => k_is)
    (case cu26_25 => k_is)
    (case cu27_25 => k_is)
    (case cm26 => k_is)
    (case ck26 => k_is)
    (case ci26 => k_is)
    (case cg26 => k_is)
    (case ch26 => k_is)
    (case cp26 => k_is)
    (case cs26 => k_is)
    (case cc26 => k_is)
    (case cx26 => k_is)
    (case cl26 => k_is)
    (case ct26 => k_is)
    (case cu25_26 => k_is)
    (case cu26_26 => k_is)
    (case cu27_26 => k_is)
    (case cm27 => k_is)
    (case ck27 => k_is)
    (case cg27 => k_is)
    (case ch27 => k_is)
    (case cp27 => k_is)
    (case cs27 => k_is)
    (case cc27 => k_is)
    (case cx27 => k_is)
    (case cl27 => k_is)
    (case ct27 => k_is)
    (case cn_first_27 => k_is)
    (case cn_second_27 => k_is)
    (case cn_across_27 => k_is)
    (case cu25_27 => k_is)
    (case cu26_27 => k_is)
    (case cu27_27 => k_is)
    (case cy => k_is)
    (case cz => k_is)
    (case z_abs => k_is)
    (case z_all => k_is)
    (case z_bool => k_is)
    (case z_enumerate => k_is)
    (case z_int => k_is)
    (case z_isinstance => k_is)
    (case z_len => k_is)
    (case z_list => k_is)
    (case z_range => k_is)
    (case z_set => k_is)
    (case z_sorted => k_is)
    (case z_sum => k_is)
    (case y_SMALL => k_is)
    (case y_LONGEST => k_is)
    (case a0 => k_is)
    (case l0 => k_is)
    (case c0 => k_is)
    (case k0 => k_is)
    (case i1 => k_is)
    (case a1 => k_is)
    (case l1 => k_is)
    (case c1 => k_is)
    (case k1 => k_is)
    (case a2 => k_is)
    (case l2 => k_is)
    (case c2 => k_is)
    (case k2 => k_is)
    (case a3 => k_is)
    (case l3 => k_is)
    (case c3 => k_is)
    (case k3 => k_is)
    (case a4 => k_is)
    (case l4 => k_is)
    (case c4 => k_is)
    (case k4 => k_is)
    (case a5 => k_is)
    (case l5 => k_is)
    (case c5 => k_is)
    (case k5 => k_is)
    (case a6 => k_is)
    (case l6 => k_is)
    (case c6 => k_is)
    (case k6 => k_is)
    (case a7 => k_is)
    (case l7 => k_is)
    (case c7 => k_is)
    (case k7 => k_is)
    (case a8 => k_is)
    (case l8 => k_is)
    (case c8 => k_is)
    (case k8 => k_is)
    (case a9 => k_is)
    (case l9 => k_is)
    (case c9 => k_is)
    (case k9 => k_is)
    (case a10 => k_is)
    (case l10 => k_is)
    (case c10 => k_is)
    (case k10 => k_is)
    (case a11 => k_is)
    (case l11 => k_is)
    (case c11 => k_is)
    (case k11 => k_is)
    (case a12 => k_is)
    (case l12 => k_is)
    (case c12 => k_is)
    (case k12 => k_is)
    (case a13 => k_is)
    (case l13 => k_is)
    (case c13 => k_is)
    (case k13 => k_is)
    (case a14 => k_is)
    (case l14 => k_is)
    (case c14 => k_is)
    (case k14 => k_is)
    (case a15 => k_is)
    (case l15 => k_is)
    (case c15 => k_is)
    (case k15 => k_is)
    (case a16 => k_is)
    (case l16 => k_is)
    (case c16 => k_is)
    (case k16 => k_is)
    (case a17 => k_is)
    (case l17 => k_is)
    (case c17 => k_is)
    (case k17 => k_is)
    (case a18 => k_is)
    (case l18 => k_is)
    (case c18 => k_is)
    (case k18 => k_is)
    (case a19 => k_is)
    (case l19 => k_is)
    (case c19 => k_is)
    (case k19 => k_is)
    (case a20 => k_is)
    (case l20 => k_is)
    (case c20 => k_is)
    (case k20 => k_is)
    (case a21 => k_is)
    (case l21 => k_is)
    (case c21 => k_is)
    (case k21 => k_is)
    (case a22 => k_is)
    (case l22 => k_is)
    (case c22 => k_is)
    (case k22 => k_is)
    (case a23 => k_is)
    (case l23 => k_is)
    (case c23 => k_is)
    (case k23 => k_is)
    (case a24 => k_is)
    (case l24 => k_is)
    (case c24 => k_is)
    (case k24 => k_is)
