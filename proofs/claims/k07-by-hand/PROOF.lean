import PyProof.Rows.All
import Wide.All
import OpenK.AllK
import Wide.FinOn
import HandS.ForMost
import HandS.Wide
import HandS.IsInst
import HandS.Style
import HandS.Conv
import HandS.EndBits
import HandS.More
import HandS.Codes
import HandS.Walk
import HandS.CallRecv
import HandS.TupSets
import PySem.Challenge.RW_arrowdots_k07_by_hand
set_option Elab.async false
set_option linter.all false
set_option maxRecDepth 100000
set_option maxHeartbeats 4000000
namespace AD
/-! ### the loops as plain functions -/
def plenAux (p g : Nat) : Nat → Nat → Nat → Nat
  | 0, _, n => n
  | f + 1, x, n => match Nat.beq x 1 with
    | true => n
    | false => plenAux p g f (x * g % p) (n + 1)
/-- how many powers there are to 1 -/
def plen (p g : Nat) : Nat := plenAux p g (p - 1) (g % p) 1
def stripN (a : Nat) : Nat → Nat → Nat
  | 0, left => left
  | f + 1, left => match Nat.beq (left % a) 0 with
    | true => stripN a f (left / a)
    | false => left
def rootLoop (p g : Nat) : Nat → Nat → Nat → Bool
  | 0, _, _ => true
  | f + 1, left, a => match Nat.ble left 1 with
    | true => true
    | false => match Nat.beq (left % a) 0 with
      | true => match Nat.beq (g ^ ((p - 1) / a) % p) 1 with
        | true => false
        | false => rootLoop p g f (stripN a left left) (a + 1)
      | false => rootLoop p g f left (a + 1)
def rootB (p g : Nat) : Bool := rootLoop p g p (p - 1) 2
def primeLoop (n : Nat) : Nat → Nat → Bool
  | 0, _ => true
  | f + 1, a => match Nat.ble (a * a) n with
    | false => true
    | true => match Nat.beq (n % a) 0 with
      | true => false
      | false => primeLoop n f (a + 1)
def primeB (n : Nat) : Bool := primeLoop n n 2
def allTo (f : Nat → Bool) : Nat → Bool
  | 0 => true
  | n + 1 => match f n with
    | true => allTo f n
    | false => false
theorem allTo_at {f : Nat → Bool} : ∀ {n : Nat}, allTo f n = true → ∀ i, i < n → f i = true
  | 0, _, i, h => absurd h (Nat.not_lt_zero i)
  | n + 1, e, i, h => by
    unfold allTo at e
    cases q : f n with
    | false => rw [q] at e; cases e
    | true =>
      rw [q] at e
      by_cases z : i = n
      · rw [z]; exact q
      · exact allTo_at e i (by omega)
def ferB (p : Nat) : Bool := allTo (fun x => Nat.beq ((x + 1) ^ (p - 1) % p) 1) (p - 1)
def rtB (p : Nat) : Bool := allTo (fun x => rootB p (x + 1) == Nat.beq (plen p (x + 1)) (p - 1)) (p - 1)

/-- what is known of a prime -/
structure Good (p : Nat) : Prop where
  lo : 3 ≤ p
  hi : p ≤ 2000
  pr : primeB p = true
  fer : ferB p = true

theorem Good.fer1 {p x : Nat} (G : Good p) (h1 : 1 ≤ x) (h2 : x < p) : x ^ (p - 1) % p = 1 := by
  have h := allTo_at G.fer (x - 1) (by omega)
  have e : x - 1 + 1 = x := by omega
  rw [e] at h
  exact Nat.eq_of_beq_eq_true h
theorem rt_of {p g : Nat} (h : rtB p = true) (h1 : 1 ≤ g) (h2 : g < p) : rootB p g = decide (plen p g = p - 1) := by
  have h := allTo_at h (g - 1) (by omega)
  have e : g - 1 + 1 = g := by omega
  rw [e] at h
  rw [eq_of_beq h]
  by_cases z : plen p g = p - 1
  · rw [decide_eq_true z, z]; exact Nat.beq_refl _
  · rw [decide_eq_false z]
    cases q : Nat.beq (plen p g) (p - 1) with
    | false => rfl
    | true => exact absurd (Nat.eq_of_beq_eq_true q) z

/-! ### how many powers -/
theorem plenAux_spec (p g : Nat) : ∀ (f n : Nat), ∃ m, plenAux p g f (g ^ n % p) n = m ∧ n ≤ m ∧ m ≤ n + f ∧ (∀ k, n ≤ k → k < m → g ^ k % p ≠ 1) ∧ (m < n + f → g ^ m % p = 1)
  | 0, n => ⟨n, rfl, Nat.le_refl _, Nat.le_refl _, fun k h1 h2 => by omega, fun h => by omega⟩
  | f + 1, n => by
    unfold plenAux
    cases q : Nat.beq (g ^ n % p) 1 with
    | true => exact ⟨n, rfl, Nat.le_refl _, by omega, fun k h1 h2 => by omega, fun _ => Nat.eq_of_beq_eq_true q⟩
    | false =>
      have e : g ^ n % p * g % p = g ^ (n + 1) % p := by rw [Nat.pow_succ, Nat.mod_mul_mod]
      show ∃ m, plenAux p g f (g ^ n % p * g % p) (n + 1) = m ∧ _
      rw [e]
      obtain ⟨m, h0, h1, h2, h3, h4⟩ := plenAux_spec p g f (n + 1)
      refine ⟨m, h0, by omega, by omega, fun k k1 k2 => ?_, fun h => h4 (by omega)⟩
      by_cases z : k = n
      · subst z
        intro y
        rw [y] at q
        cases q
      · exact h3 k (by omega) k2
theorem plen_spec (p g : Nat) (hp : 1 ≤ p) : 1 ≤ plen p g ∧ plen p g ≤ p ∧ (∀ k, 1 ≤ k → k < plen p g → g ^ k % p ≠ 1) ∧ (plen p g < p → g ^ plen p g % p = 1) := by
  obtain ⟨m, h0, h1, h2, h3, h4⟩ := plenAux_spec p g (p - 1) 1
  rw [Nat.pow_one] at h0
  have e : plen p g = m := h0
  rw [e]
  exact ⟨h1, by omega, h3, fun h => h4 (by omega)⟩
theorem plen_unique {p g n : Nat} (hp : 1 ≤ p) (h1 : 1 ≤ n) (h2 : n ≤ p) (h3 : ∀ k, 1 ≤ k → k < n → g ^ k % p ≠ 1) (h4 : g ^ n % p = 1 ∨ n = p) : plen p g = n := by
  obtain ⟨a1, a2, a3, a4⟩ := plen_spec p g hp
  rcases Nat.lt_trichotomy (plen p g) n with h | h | h
  · exact absurd (a4 (by omega)) (h3 _ a1 h)
  · exact h
  · rcases h4 with z | z
    · exact absurd z (a3 n h1 h)
    · omega

/-! ### what is left by a prime -/
theorem Good.ferm {p x : Nat} (G : Good p) (h : x % p ≠ 0) : x ^ (p - 1) % p = 1 := by
  have lo := G.lo
  rw [Nat.pow_mod]
  exact G.fer1 (by omega) (Nat.mod_lt _ (by omega))
/-- the last but one power is what makes 1 of a number -/
theorem Good.inv {p x : Nat} (G : Good p) (h : x % p ≠ 0) : x ^ (p - 2) * x % p = 1 := by
  have lo := G.lo
  rw [← Nat.pow_succ, show (p - 2).succ = p - 1 by omega]
  exact G.ferm h
theorem mul_left_mod {p a b : Nat} (c : Nat) (h : a % p = b % p) : c * a % p = c * b % p := by
  rw [Nat.mul_mod, h, ← Nat.mul_mod]
theorem mul_right_mod {p a b : Nat} (c : Nat) (h : a % p = b % p) : a * c % p = b * c % p := by
  rw [Nat.mul_mod, h, ← Nat.mul_mod]
theorem Good.cancel {p x a b : Nat} (G : Good p) (h : x % p ≠ 0) (e : x * a % p = x * b % p) : a % p = b % p := by
  have lo := G.lo
  have k : ∀ c, x ^ (p - 2) * (x * c) % p = c % p := fun c => by
    rw [← Nat.mul_assoc, Nat.mul_mod, G.inv h, Nat.one_mul, Nat.mod_mod]
  have z := mul_left_mod (x ^ (p - 2)) e
  rw [k, k] at z
  exact z
theorem Good.mul_ne {p a b : Nat} (G : Good p) (ha : a % p ≠ 0) (hb : b % p ≠ 0) : a * b % p ≠ 0 := fun z => by
  have e : a * b % p = a * 0 % p := by rw [z, Nat.mul_zero, Nat.zero_mod]
  exact hb (by rw [G.cancel ha e, Nat.zero_mod])
theorem Good.pow_ne {p g : Nat} (G : Good p) (hg : g % p ≠ 0) : ∀ n, g ^ n % p ≠ 0
  | 0 => by
    have lo := G.lo
    rw [Nat.pow_zero, Nat.mod_eq_of_lt (by omega)]
    exact Nat.one_ne_zero
  | n + 1 => by
    rw [Nat.pow_succ]
    exact G.mul_ne (G.pow_ne hg n) hg
theorem Good.pow_pos {p g : Nat} (G : Good p) (hg : g % p ≠ 0) (n : Nat) : 1 ≤ g ^ n % p := Nat.pos_of_ne_zero (G.pow_ne hg n)

theorem Good.plen_le {p g : Nat} (G : Good p) (h1 : 1 ≤ g) (h2 : g < p) : plen p g ≤ p - 1 := by
  have lo := G.lo
  obtain ⟨a1, a2, a3, a4⟩ := plen_spec p g (by omega)
  rcases Nat.lt_or_ge (p - 1) (plen p g) with z | z
  · exact absurd (G.fer1 h1 h2) (a3 (p - 1) (by omega) z)
  · exact z
/-! ### a root -/
/-- a root of a prime -/
structure Root (p g : Nat) : Prop where
  good : Good p
  one : 1 ≤ g
  lt : g < p
  len : plen p g = p - 1
theorem Root.ne {p g : Nat} (R : Root p g) : g % p ≠ 0 := by
  have h := R.one
  rw [Nat.mod_eq_of_lt R.lt]
  omega
theorem Root.per {p g : Nat} (R : Root p g) (n : Nat) : g ^ (n % (p - 1)) % p = g ^ n % p := by
  have lo := R.good.lo
  conv => rhs; rw [← Nat.div_add_mod n (p - 1), Nat.pow_add, Nat.pow_mul, Nat.mul_mod, Nat.pow_mod, R.good.ferm R.ne, Nat.one_pow, ← Nat.mul_mod, Nat.one_mul]
theorem Root.inj0 {p g i d : Nat} (R : Root p g) (hd : 1 ≤ d) (hd2 : d < p - 1) : g ^ i % p ≠ g ^ (i + d) % p := fun e => by
  have lo := R.good.lo
  rw [Nat.pow_add] at e
  have e1 : g ^ i * 1 % p = g ^ i * g ^ d % p := by rw [Nat.mul_one]; exact e
  have e2 := R.good.cancel (R.good.pow_ne R.ne i) e1
  rw [Nat.mod_eq_of_lt (show 1 < p by omega)] at e2
  exact (plen_spec p g (by omega)).2.2.1 d hd (by rw [R.len]; omega) e2.symm
theorem Root.inj {p g i j : Nat} (R : Root p g) (hi : i < p - 1) (hj : j < p - 1) (e : g ^ i % p = g ^ j % p) : i = j := by
  rcases Nat.lt_trichotomy i j with h | h | h
  · exact absurd (by rw [show i + (j - i) = j by omega]; exact e) (R.inj0 (i := i) (d := j - i) (by omega) (by omega))
  · exact h
  · exact absurd (by rw [show j + (i - j) = i by omega]; exact e.symm) (R.inj0 (i := j) (d := i - j) (by omega) (by omega))
/-- equal powers: the numbers differ by a multiple of one less than the prime -/
theorem Root.injm {p g i j : Nat} (R : Root p g) (e : g ^ i % p = g ^ j % p) : i % (p - 1) = j % (p - 1) := by
  have lo := R.good.lo
  rw [← R.per i, ← R.per j] at e
  exact R.inj (Nat.mod_lt _ (by omega)) (Nat.mod_lt _ (by omega)) e

/-! ### as many places as things -/
theorem nodup_len : ∀ (n : Nat) (l : List Nat), l.Nodup → (∀ x ∈ l, x < n) → l.length ≤ n
  | 0, l, _, h => by
    cases l with
    | nil => exact Nat.le_refl _
    | cons x r => exact absurd (h x (List.mem_cons_self ..)) (Nat.not_lt_zero x)
  | n + 1, l, hn, h => by
    have h1 : (l.erase n).Nodup := hn.erase n
    have h2 := nodup_len n (l.erase n) h1 fun x hx => by
      have a := h x (List.mem_of_mem_erase hx)
      have b : x ≠ n := fun e => by
        subst e
        exact (List.Nodup.mem_erase_iff hn).mp hx |>.1 rfl
      omega
    have h3 := List.length_erase (a := n) (l := l)
    rw [h3] at h2
    split at h2 <;> omega
theorem nodup_full {n : Nat} {l : List Nat} (hn : l.Nodup) (h : ∀ x ∈ l, x < n) (hl : l.length = n) {x : Nat} (hx : x < n) : x ∈ l := by
  by_cases m : x ∈ l
  · exact m
  · have h1 : (x :: l).Nodup := List.nodup_cons.mpr ⟨m, hn⟩
    have h2 := nodup_len n (x :: l) h1 fun y hy => by
      rcases List.mem_cons.mp hy with e | e
      · rw [e]; exact hx
      · exact h y e
    rw [List.length_cons] at h2
    omega
theorem map_nodup {α β : Type} {f : α → β} : ∀ {l : List α}, l.Nodup → (∀ x ∈ l, ∀ y ∈ l, f x = f y → x = y) → (l.map f).Nodup
  | [], _, _ => List.nodup_nil
  | a :: r, h, hi => by
    obtain ⟨h1, h2⟩ := List.nodup_cons.mp h
    refine List.nodup_cons.mpr ⟨fun m => ?_, map_nodup h2 fun x hx y hy => hi x (List.mem_cons_of_mem _ hx) y (List.mem_cons_of_mem _ hy)⟩
    obtain ⟨b, hb, e⟩ := List.mem_map.mp m
    have z := hi b (List.mem_cons_of_mem _ hb) a (List.mem_cons_self ..) e
    rw [z] at hb
    exact h1 hb
/-- every number from 1 to below the prime is a power -/
theorem Root.onto {p g x : Nat} (R : Root p g) (h1 : 1 ≤ x) (h2 : x < p) : ∃ k, k < p - 1 ∧ g ^ k % p = x := by
  have lo := R.good.lo
  let l := (List.range (p - 1)).map fun k => g ^ k % p - 1
  have hn : l.Nodup := map_nodup List.nodup_range fun i hi j hj e => by
    have a := R.good.pow_pos R.ne i
    have b := R.good.pow_pos R.ne j
    exact R.inj (List.mem_range.mp hi) (List.mem_range.mp hj) (by omega)
  have hb : ∀ y ∈ l, y < p - 1 := fun y hy => by
    obtain ⟨k, hk, e⟩ := List.mem_map.mp hy
    have a := R.good.pow_pos R.ne k
    have b := Nat.mod_lt (g ^ k) (show p > 0 by omega)
    omega
  have hm := nodup_full hn hb (by rw [List.length_map, List.length_range]) (x := x - 1) (by omega)
  obtain ⟨k, hk, e⟩ := List.mem_map.mp hm
  have a := R.good.pow_pos R.ne k
  exact ⟨k, List.mem_range.mp hk, by omega⟩
end AD
namespace AD
/-! ### how many different ones -/
section
variable {α : Type} [DecidableEq α]
theorem sub_len : ∀ {B A : List α}, B.Nodup → (∀ x ∈ B, x ∈ A) → B.length ≤ A.length
  | [], _, _, _ => Nat.zero_le _
  | b :: r, A, h, hs => by
    obtain ⟨h1, h2⟩ := List.nodup_cons.mp h
    have hb := hs b (List.mem_cons_self ..)
    have ih := sub_len (A := A.erase b) h2 fun x hx => by
      have ne : x ≠ b := fun e => h1 (e ▸ hx)
      exact (List.mem_erase_of_ne ne).mpr (hs x (List.mem_cons_of_mem _ hx))
    have hl := List.length_erase_of_mem hb
    have hp := List.length_pos_of_mem hb
    rw [List.length_cons]
    omega
theorem twice : ∀ {A : List α}, ¬ A.Nodup → ∃ a ∈ A, a ∈ A.erase a
  | [], h => absurd List.nodup_nil h
  | a :: r, h => by
    by_cases m : a ∈ r
    · exact ⟨a, List.mem_cons_self .., by rw [List.erase_cons_head]; exact m⟩
    · have h2 : ¬ r.Nodup := fun z => h (List.nodup_cons.mpr ⟨m, z⟩)
      obtain ⟨b, hb, hb2⟩ := twice h2
      refine ⟨b, List.mem_cons_of_mem _ hb, ?_⟩
      have ne : a ≠ b := fun e => m (e ▸ hb)
      rw [List.erase_cons_tail (by simpa using ne)]
      exact List.mem_cons_of_mem _ hb2
/-- B: those of A, each once -/
theorem once_len {A B : List α} (h1 : B.Nodup) (h2 : ∀ x ∈ B, x ∈ A) (h3 : ∀ x ∈ A, x ∈ B) : B.length ≤ A.length ∧ (B.length = A.length ↔ A.Nodup) := by
  have hle := sub_len h1 h2
  refine ⟨hle, fun e => ?_, fun h => Nat.le_antisymm hle (sub_len h h3)⟩
  by_cases z : A.Nodup
  · exact z
  · obtain ⟨a, ha, ha2⟩ := twice z
    have h4 := sub_len (A := A.erase a) h1 fun x hx => by
      by_cases y : x = a
      · rw [y]; exact ha2
      · exact (List.mem_erase_of_ne y).mpr (h2 x hx)
    have hl := List.length_erase_of_mem ha
    have hp := List.length_pos_of_mem ha
    omega
end
/-! ### arrows -/
/-- how far up the dot so far across is -/
def up (ns : List Int) (c d : Nat) : Int := ns.getD (c + d) 0 - ns.getD c 0
/-- no two arrows are alike -/
def Apt (ns : List Int) : Prop := ∀ d i j, 1 ≤ d → i < j → j + d < ns.length → up ns i d ≠ up ns j d
/-- all arrows, in turn -/
def arrowsTo (ns : List Int) (n one : Nat) : List (List Int) := (List.range' (one + 1) (n - (one + 1))).map fun other : Nat => [(other : Int) - (one : Int), ns.getD other 0 - ns.getD one 0]
def arrows (ns : List Int) : List (List Int) := (List.range ns.length).flatMap fun one => arrowsTo ns ns.length one
theorem nodup_flatMap {α β : Type} {f : α → List β} : ∀ {l : List α}, l.Nodup → (∀ a ∈ l, (f a).Nodup) → (∀ a ∈ l, ∀ b ∈ l, a ≠ b → ∀ x, x ∈ f a → x ∉ f b) → (l.flatMap f).Nodup
  | [], _, _, _ => List.nodup_nil
  | a :: r, h, h1, h2 => by
    obtain ⟨k1, k2⟩ := List.nodup_cons.mp h
    rw [List.flatMap_cons]
    refine List.nodup_append.mpr ⟨h1 a (List.mem_cons_self ..), nodup_flatMap k2 (fun b hb => h1 b (List.mem_cons_of_mem _ hb)) (fun b hb c hc => h2 b (List.mem_cons_of_mem _ hb) c (List.mem_cons_of_mem _ hc)), ?_⟩
    intro x hx y hy e
    subst e
    obtain ⟨b, hb, hxb⟩ := List.mem_flatMap.mp hy
    exact h2 a (List.mem_cons_self ..) b (List.mem_cons_of_mem _ hb) (fun e => k1 (e ▸ hb)) x hx hxb
theorem mem_arrowsTo {ns : List Int} {n one : Nat} {x : List Int} : x ∈ arrowsTo ns n one ↔ ∃ d, 1 ≤ d ∧ one + d < n ∧ x = [(d : Int), up ns one d] := by
  unfold arrowsTo
  rw [List.mem_map]
  constructor
  · rintro ⟨o, ho, rfl⟩
    rw [List.mem_range'_1] at ho
    refine ⟨o - one, by omega, by omega, ?_⟩
    unfold up
    rw [show one + (o - one) = o by omega, show ((o - one : Nat) : Int) = (o : Int) - (one : Int) by omega]
  · rintro ⟨d, h1, h2, rfl⟩
    refine ⟨one + d, List.mem_range'_1.mpr (by omega), ?_⟩
    unfold up
    rw [show ((one + d : Nat) : Int) - (one : Int) = (d : Int) by omega]
theorem arrows_apt (ns : List Int) : (arrows ns).Nodup ↔ Apt ns := by
  constructor
  · intro h d i j h1 h2 h3 e
    unfold arrows at h
    have hi : [(d : Int), up ns i d] ∈ arrowsTo ns ns.length i := mem_arrowsTo.mpr ⟨d, h1, by omega, rfl⟩
    have hj : [(d : Int), up ns i d] ∈ arrowsTo ns ns.length j := mem_arrowsTo.mpr ⟨d, h1, h3, by rw [e]⟩
    -- split the list at i and j
    have key : ∀ (l : List Nat) (f : Nat → List (List Int)) (i j : Nat) (x : List Int), (l.flatMap f).Nodup → l.Pairwise (· < ·) → i ∈ l → j ∈ l → i < j → x ∈ f i → x ∈ f j → False := by
      intro l
      induction l with
      | nil => intro f i j x _ _ hi; exact absurd hi (List.not_mem_nil)
      | cons a r ih =>
        intro f i j x hn hp hi hj hij xi xj
        rw [List.flatMap_cons] at hn
        obtain ⟨n1, n2, n3⟩ := List.nodup_append.mp hn
        obtain ⟨p1, p2⟩ := List.pairwise_cons.mp hp
        rcases List.mem_cons.mp hj with ej | ej
        · rcases List.mem_cons.mp hi with ei | ei
          · omega
          · have := p1 i ei
            omega
        · rcases List.mem_cons.mp hi with ei | ei
          · subst ei
            exact n3 x xi x (List.mem_flatMap.mpr ⟨j, ej, xj⟩) rfl
          · exact ih f i j x n2 p2 ei ej hij xi xj
    exact key _ _ i j _ h List.pairwise_lt_range (List.mem_range.mpr (by omega)) (List.mem_range.mpr (by omega)) h2 hi hj
  · intro h
    refine nodup_flatMap List.nodup_range (fun one _ => ?_) fun a ha b hb hab x xa xb => ?_
    · unfold arrowsTo
      refine map_nodup (List.nodup_range' 1) fun x _ y _ e => ?_
      have := (List.cons.inj e).1
      omega
    · obtain ⟨d, d1, d2, rfl⟩ := mem_arrowsTo.mp xa
      obtain ⟨d', _, d2', e⟩ := mem_arrowsTo.mp xb
      have e1 := (List.cons.inj e).1
      have e2 := (List.cons.inj (List.cons.inj e).2).1
      have e3 : d = d' := by omega
      subst e3
      rcases Nat.lt_or_ge a b with z | z
      · exact h d a b d1 z (by omega) e2
      · exact h d b a d1 (by omega) (by omega) e2.symm
end AD
namespace AD
theorem arrowsTo_len (ns : List Int) (n one : Nat) : (arrowsTo ns n one).length = n - (one + 1) := by
  unfold arrowsTo
  rw [List.length_map, List.length_range']
theorem arrowsTo_at {ns : List Int} {n one j : Nat} (h : j < n - (one + 1)) : (arrowsTo ns n one)[j]? = some [((one + 1 + j : Nat) : Int) - (one : Int), ns.getD (one + 1 + j) 0 - ns.getD one 0] := by
  unfold arrowsTo
  rw [List.getElem?_map, List.getElem?_range' h, Nat.one_mul]
  rfl
def tri (n : Nat) : Nat := ((List.range n).map fun one => n - (one + 1)).sum
theorem arrows_len (ns : List Int) : (arrows ns).length = tri ns.length := by
  unfold arrows tri
  rw [List.length_flatMap]
  congr 1
  exact List.map_congr_left fun one _ => arrowsTo_len ns _ one
theorem tri9 : ∀ n, n ≤ 9 → tri n < 64 := by decide +kernel
theorem tri60 : ∀ n, n ≤ 60 → tri n < 2000 := by decide +kernel
theorem flat_succ {β : Type} (f : Nat → List β) (i : Nat) : (List.range (i + 1)).flatMap f = (List.range i).flatMap f ++ f i := by
  rw [List.range_succ, List.flatMap_append, List.flatMap_singleton]
/-- a thing put in somewhere -/
theorem insert_perm {α : Type} (l : List α) (i : Nat) (x : α) : (l.take i ++ [x] ++ l.drop i).Perm (x :: l) := by
  have h : (l.take i ++ ([x] ++ l.drop i)).Perm ([x] ++ (l.take i ++ l.drop i)) := by
    rw [← List.append_assoc, ← List.append_assoc]
    exact List.Perm.append_right _ List.perm_append_comm
  rw [List.append_assoc]
  rw [List.take_append_drop] at h
  exact h
theorem range_snoc_perm {l : List Nat} {n i : Nat} (h : l.Perm (List.range n)) : (l.take i ++ [n] ++ l.drop i).Perm (List.range (n + 1)) := by
  refine (insert_perm l i n).trans ?_
  rw [List.range_succ]
  exact (List.Perm.cons n h).trans (List.perm_append_comm (l₁ := [n]))
end AD
namespace Lw
open PySem PySem.Spec PyProof.Rows L2 AD
section
variable {P : Program} {w : World} {K : PySem.W.Frag} {mg : Str → Option Value} {base : Heap}
variable {fa : Nat → Addr} {fd : Nat → FuncData} {tk : Nat → Tok}
/-! ### classes of the text -/
/-- a class whose making is object's own -/
structure MkP (K : PySem.W.Frag) (C : Addr) : Prop where
  mks : PySem.W.makesIn K C = true
  ini : PySem.W.findIn K (.ref C) "__init__" = some (some (.builtin "object.__init__"))
  kp : PySem.W.keepIn K (.ref C) = true
/-- what isinstance asks of an instance of it -/
structure InsF (K : PySem.W.Frag) (C : Addr) : Prop where
  cl : Cls K C
  f1 : PySem.W.findIn K (.ref C) "__class__" = some (some (.builtin "object.__class__"))
  f2 : PySem.W.specialIn K (.builtin "object.__class__") "__get__" = some (some (.builtin "getset_descriptor.__get__"))
  f3 : PySem.W.takesIn K (.builtin "object.__class__") = some true
  f4 : PySem.W.mroIn K C (.type "object") = some true
theorem InsF.ty {C a dx : Addr} {H : Hp} {fs : List (Str × V)} (i : InsF K C) (h : H a = some (.ins C dx fs)) : TyX K H (.ref a) (.ref C) := .base (.ins h i.cl i.f1 i.f2 i.f3 i.f4)
theorem kit_own {t : Value} {C : Addr} {b : Bool} (h1 : PySem.W.isClsIn K C = true) (h2 : PySem.W.typeIn K (.ref C) = some (.type "type")) (h3 : PySem.W.subIn K t (.ref C) = some b) (h4 : PySem.W.subIn K (.ref C) (.ref C) = some true) : PySem.W.kitOne K t (.ref C) = some b := by
  unfold PySem.W.kitOne
  by_cases e : (t == Value.ref C) = true
  · rw [if_pos e]
    have e' : t = .ref C := eq_of_beq e
    rw [e', h4] at h3
    exact h3
  · rw [if_neg e]
    have h5 : ((PySem.W.clsIn K C).isSome && PySem.W.typeIn K (.ref C) == some (.type "type")) = true := by
      rw [h2, show (PySem.W.clsIn K C).isSome = true from h1]
      rfl
    show (if ((PySem.W.clsIn K C).isSome && PySem.W.typeIn K (.ref C) == some (.type "type")) = true then PySem.W.subIn K t (.ref C) else none) = some b
    rw [if_pos h5]
    exact h3
/-- C(), C without an own __init__: a new instance -/
def tMakeP (C : Addr) : TE := fun _ H Q => ∀ x dx, H x = none → H dx = none → dx ≠ x → Q (.ref x) (upd (upd H dx (.own x)) x (.ins C dx []))
theorem pe_makeP {X : Cx} {C : Addr} {x : Str} {p pos : Pos} (M : MkP X.K C) (hg : Gl X x) (hm : X.mg x = some (.ref C)) (hdb : (x == ("__debug__" : Str)) = false := by decide) :
    PE X (.Call (.Name x p) [] [] pos) (tMakeP C) := by
  refine ⟨fun pins s σ H Q I h => wpAny_Call_Name_kw (ld_glob I hg hm ?_ hdb)⟩
  refine PySem.W.callWith_K0 I.kIn M.kp (wpAny_call (make_map0 I.kIn M.mks M.ini (fun v => PySem.W.Looks.of_pure (PySem.W.oi_bind v)) ?_))
  have J := Inv.made (C := C) I
  have Y := PySem.W.makes_of (M := model X.prog X.w) I.kIn M.mks
  obtain ⟨_, _, _, e, _⟩ := J.hok _ _ upd_same
  have t1 : PySem.W.Looks (model X.prog X.w) ((s.heap.push PySem.W.emptyDict).push (PySem.W.instObj C s.heap.objs.size)) (typeOf (.ref (s.heap.objs.size + 1))) (.ref C) := (PySem.W.Looks.ld e).andThen .now
  have t2 : PySem.W.Looks (model X.prog X.w) ((s.heap.push PySem.W.emptyDict).push (PySem.W.instObj C s.heap.objs.size)) (isInstance (.ref (s.heap.objs.size + 1)) (.type "object")) true :=
    t1.andThen (Y.top.keeps fun b o q => Heap.get?_push_of_some _ (Heap.get?_push_of_some _ q))
  refine codeAny_call_builtin PySem.W.oi_plain PySem.W.entry_oi (PySem.W.check_slot (rest := []) (kw := []) PySem.W.oi_kind PySem.W.oi_split t2 (PySem.W.oi_args _) ?_)
  rw [PySem.W.oi_run]
  exact wpAny_pure ⟨rfl, ⟨.ref (s.heap.objs.size + 1), _, J, rfl, h _ _ (I.hok.fresh (Nat.le_succ _)) (I.hok.fresh (Nat.le_refl _)) (Nat.ne_of_lt (Nat.lt_succ_self _))⟩⟩
end
end Lw
namespace Lw
open PySem PySem.Spec PyProof.Rows L2 AD
def topS (i : Nat) : Stmt := PySem.Challenge.pw_arrowdots_k07_by_hand.main.body.getD i (.Pass ⟨0, 0, 0, 0⟩)
abbrev s_first_same : Stmt := topS 2
abbrev s_Apart_shows : Stmt := inClass (topS 3) 0
abbrev s_Same_init : Stmt := inClass (topS 4) 0
abbrev s_Same_shows : Stmt := inClass (topS 4) 1
abbrev s__law_number : Stmt := topS 6
abbrev s__law_arrows : Stmt := topS 7
abbrev s__law_apart : Stmt := topS 8
abbrev s__law_shown : Stmt := topS 9
abbrev s__law_order : Stmt := topS 10
abbrev s__law_says : Stmt := topS 11
abbrev s_law : Stmt := topS 12
theorem sc_first_same : FnScope ["dots", "across", "seen", "column", "up"] ["dots"] (defScope s_first_same) :=
  ⟨rfl, rfl, rfl, by decide +kernel, rfl, by decide +kernel, by decide +kernel⟩
theorem sc_Apart_shows : FnScope ["self", "dots"] ["self", "dots"] (defScope s_Apart_shows) :=
  ⟨rfl, rfl, rfl, by decide +kernel, rfl, by decide +kernel, by decide +kernel⟩
theorem sc_Same_init : FnScope ["self", "first", "second", "across"] ["self", "first", "second", "across"] (defScope s_Same_init) :=
  ⟨rfl, rfl, rfl, by decide +kernel, rfl, by decide +kernel, by decide +kernel⟩
theorem sc_Same_shows : FnScope ["self", "dots", "one"] ["self", "dots"] (defScope s_Same_shows) :=
  ⟨rfl, rfl, rfl, by decide +kernel, rfl, by decide +kernel, by decide +kernel⟩
theorem sc__law_number : FnScope ["_law_cell", "_law_at", "_law_whole", "_law_mixed", "_law_more"] ["_law_cell", "_law_at", "_law_whole"] (defScope s__law_number) :=
  ⟨rfl, rfl, rfl, by decide +kernel, rfl, by decide +kernel, by decide +kernel⟩
theorem sc__law_arrows : FnScope ["_law_dots", "_law_found", "_law_one", "_law_other"] ["_law_dots"] (defScope s__law_arrows) :=
  ⟨rfl, rfl, rfl, by decide +kernel, rfl, by decide +kernel, by decide +kernel⟩
theorem sc__law_apart : FnScope ["_law_dots", "_law_arrows_here"] ["_law_dots"] (defScope s__law_apart) :=
  ⟨rfl, rfl, rfl, by decide +kernel, rfl, by decide +kernel, by decide +kernel⟩
theorem sc__law_shown : FnScope ["_law_dots", "_law_found", "_law_one"] ["_law_dots", "_law_found"] (defScope s__law_shown) :=
  ⟨rfl, rfl, rfl, by decide +kernel, rfl, by decide +kernel, by decide +kernel⟩
theorem sc__law_order : FnScope ["_law_script", "_law_by", "_law_many", "_law_cells", "_law_found", "_law_one", "_law_number_here"] ["_law_script", "_law_by", "_law_many"] (defScope s__law_order) :=
  ⟨rfl, rfl, rfl, by decide +kernel, rfl, by decide +kernel, by decide +kernel⟩
theorem sc__law_says : FnScope ["_law_said", "_law_due"] ["_law_said", "_law_due"] (defScope s__law_says) :=
  ⟨rfl, rfl, rfl, by decide +kernel, rfl, by decide +kernel, by decide +kernel⟩
theorem sc_law : FnScope ["_law_script", "_law_whole", "_law_by", "_law_dots", "_law_rows", "_law_many", "_law_first", "_law_second", "_law_across", "_law_built"] ["_law_script"] (defScope s_law) :=
  ⟨rfl, rfl, rfl, by decide +kernel, rfl, by decide +kernel, by decide +kernel⟩
/-- what stands behind the top: the names left to Python, the constants, the defs -/
structure Txt (K : PySem.W.Frag) (mg : Str → Option Value) (fa : Nat → Addr) (fd : Nat → FuncData) (tk : Nat → Tok) : Prop where
  m_abs : mg "abs" = none
  m_bool : mg "bool" = none
  m_isinstance : mg "isinstance" = none
  m_len : mg "len" = none
  m_list : mg "list" = none
  m_min : mg "min" = none
  m_range : mg "range" = none
  m_set : mg "set" = none
  m_sum : mg "sum" = none
  g_Answer : mg "Answer" = some (.ref (fa 11))
  mk_Answer : MkP K (fa 11)
  in_Answer : InsF K (fa 11)
  ki_Answer_Answer : PySem.W.kitOne K (.ref (fa 11)) (.ref (fa 11)) = some true
  ki_Answer_Apart : PySem.W.kitOne K (.ref (fa 11)) (.ref (fa 12)) = some false
  ki_Answer_Same : PySem.W.kitOne K (.ref (fa 11)) (.ref (fa 13)) = some false
  g_Apart : mg "Apart" = some (.ref (fa 12))
  mk_Apart : MkP K (fa 12)
  in_Apart : InsF K (fa 12)
  me_Apart_shows : Meth K (fa 12) "shows" (fa 1)
  ki_Apart_Answer : PySem.W.kitOne K (.ref (fa 12)) (.ref (fa 11)) = some true
  ki_Apart_Apart : PySem.W.kitOne K (.ref (fa 12)) (.ref (fa 12)) = some true
  ki_Apart_Same : PySem.W.kitOne K (.ref (fa 12)) (.ref (fa 13)) = some false
  g_Same : mg "Same" = some (.ref (fa 13))
  mk_Same : Mk K (fa 13) (fa 2)
  in_Same : InsF K (fa 13)
  me_Same_shows : Meth K (fa 13) "shows" (fa 3)
  na_Same_first : NoAttr K (fa 13) "first"
  na_Same_second : NoAttr K (fa 13) "second"
  na_Same_across : NoAttr K (fa 13) "across"
  ki_Same_Answer : PySem.W.kitOne K (.ref (fa 13)) (.ref (fa 11)) = some true
  ki_Same_Apart : PySem.W.kitOne K (.ref (fa 13)) (.ref (fa 12)) = some false
  ki_Same_Same : PySem.W.kitOne K (.ref (fa 13)) (.ref (fa 13)) = some true
  g_first_same : mg "first_same" = some (.ref (fa 0))
  F_first_same : Fun K "first_same" "first_same" s_first_same (fa 0) (fd 0)
  b_first_same : Binds K (fd 0) ["dots"] []
  F_Apart_shows : Fun K "shows" "Apart.shows" s_Apart_shows (fa 1) (fd 1)
  b_Apart_shows : Binds K (fd 1) ["self", "dots"] []
  F_Same_init : Fun K "__init__" "Same.__init__" s_Same_init (fa 2) (fd 2)
  b_Same_init : Binds K (fd 2) ["self", "first", "second", "across"] []
  F_Same_shows : Fun K "shows" "Same.shows" s_Same_shows (fa 3) (fd 3)
  b_Same_shows : Binds K (fd 3) ["self", "dots"] []
  g__law_number : mg "_law_number" = some (.ref (fa 4))
  F__law_number : Fun K "_law_number" "_law_number" s__law_number (fa 4) (fd 4)
  b__law_number : Binds K (fd 4) ["_law_cell", "_law_at", "_law_whole"] []
  g__law_arrows : mg "_law_arrows" = some (.ref (fa 5))
  F__law_arrows : Fun K "_law_arrows" "_law_arrows" s__law_arrows (fa 5) (fd 5)
  b__law_arrows : Binds K (fd 5) ["_law_dots"] []
  g__law_apart : mg "_law_apart" = some (.ref (fa 6))
  F__law_apart : Fun K "_law_apart" "_law_apart" s__law_apart (fa 6) (fd 6)
  b__law_apart : Binds K (fd 6) ["_law_dots"] []
  g__law_shown : mg "_law_shown" = some (.ref (fa 7))
  F__law_shown : Fun K "_law_shown" "_law_shown" s__law_shown (fa 7) (fd 7)
  b__law_shown : Binds K (fd 7) ["_law_dots", "_law_found"] []
  g__law_order : mg "_law_order" = some (.ref (fa 8))
  F__law_order : Fun K "_law_order" "_law_order" s__law_order (fa 8) (fd 8)
  b__law_order : Binds K (fd 8) ["_law_script", "_law_by", "_law_many"] []
  g__law_says : mg "_law_says" = some (.ref (fa 9))
  F__law_says : Fun K "_law_says" "_law_says" s__law_says (fa 9) (fd 9)
  b__law_says : Binds K (fd 9) ["_law_said", "_law_due"] []
  g_law : mg "law" = some (.ref (fa 10))
  F_law : Fun K "law" "law" s_law (fa 10) (fd 10)
  b_law : Binds K (fd 10) ["_law_script"] []
section
variable {P : Program} {w : World} {K : PySem.W.Frag} {mg : Str → Option Value} {base : Heap}
variable {fa : Nat → Addr} {fd : Nat → FuncData} {tk : Nat → Tok}
end
end Lw
namespace Lw
open PySem PySem.Spec PyProof.Rows L2 AD
section
variable {P : Program} {w : World} {K : PySem.W.Frag} {mg : Str → Option Value} {base : Heap}
variable {fa : Nat → Addr} {fd : Nat → FuncData} {tk : Nat → Tok}
/-! ### small things -/
theorem op_mulB {X : Cx} : OpR X (binaryOp .Mult) (rI IntMulOk fun i j => .int (i * j)) :=
  opI fun _ _ _ _ _ _ _ hc q => mul_int q hc
theorem mulL {i j : Int} (h1 : -(2 ^ 64) < i) (h2 : i < 2 ^ 64) : IntMulOk i j := .of_left (intBits_le_64 h1 h2)
theorem mulR {i j : Int} (h1 : -(2 ^ 64) < j) (h2 : j < 2 ^ 64) : IntMulOk i j := .of_right (intBits_le_64 h1 h2)
theorem same_upd {H : Hp} {p : Addr} {o : HO} (h : H p = none) : Same H (upd H p o) := fun b x e => by
  rw [upd_ne (ne_of_none e h)]
  exact e
theorem dec_vint {i j : Int} : (decide (V.int i = V.int j) = true) = (i = j) := by
  apply propext
  rw [decide_eq_true_iff]
  exact ⟨fun e => V.int.inj e, fun e => by rw [e]⟩
theorem dF {c : Prop} [Decidable c] (e : ¬ (decide c = true)) : ¬ c := fun h => e (decide_eq_true h)
theorem dT {c : Prop} [Decidable c] (e : decide c = true) : c := of_decide_eq_true e
theorem z2 : (0 : Int) < 2 := by decide
theorem dp_ints {K : PySem.W.Frag} {H : Hp} : ∀ ns : List Int, DpAll K H (ns.map V.int) (ns.map PyData.int)
  | [] => .nil
  | n :: r => .cons (.int n) (dp_ints r)
theorem dp_list {K : PySem.W.Frag} {H : Hp} {a : Addr} {ns : List Int} (h : SqL K H a (ns.map V.int)) : Dp K H (.ref a) (.list (ns.map PyData.int)) := .lst h (dp_ints ns)
theorem eqv_ints : ∀ ns ms : List Int, PyData.eqvAll (ns.map PyData.int) (ms.map PyData.int) = decide (ns = ms)
  | [], [] => rfl
  | [], _ :: _ => rfl
  | _ :: _, [] => rfl
  | n :: r, m :: q => by
    rw [List.map_cons, List.map_cons, PyData.eqvAll, eqv_ints r q, PyData.eqv]
    by_cases e : n = m
    · subst e
      by_cases z : r = q
      · subst z; simp
      · simp [z]
    · simp [e]
theorem canLay_ints : ∀ ns : List Int, PyData.canLayAll0 (ns.map PyData.int) = true
  | [] => rfl
  | n :: r => by
    rw [List.map_cons, PyData.canLayAll0, canLay_ints r]
    rfl
theorem depth_ints : ∀ ns : List Int, PyData.depthAll (ns.map PyData.int) ≤ 1
  | [] => by decide
  | n :: r => by
    have h := depth_ints r
    rw [List.map_cons, PyData.depthAll]
    exact Nat.max_le.mpr ⟨by simp [PyData.depth], h⟩
theorem shaped_list (ns : List Int) : SeqAt.shaped (.list (ns.map PyData.int)) = true := by
  have h := depth_ints ns
  unfold SeqAt.shaped
  rw [PyData.canLay0, canLay_ints, PyData.depth, decide_eq_true (show PyData.depthAll (ns.map PyData.int) + 1 ≤ 64 by omega)]
  rfl
/-- two lists of ints -/
def rEqL (K : PySem.W.Frag) : R2 := fun x y H Q => ∃ (a b : Addr) (ns ms : List Int), x = .ref a ∧ y = .ref b ∧ SqL K H a (ns.map V.int) ∧ SqL K H b (ms.map V.int) ∧ Q (.bl (decide (ns = ms))) H
def rNeL (K : PySem.W.Frag) : R2 := fun x y H Q => ∃ (a b : Addr) (ns ms : List Int), x = .ref a ∧ y = .ref b ∧ SqL K H a (ns.map V.int) ∧ SqL K H b (ms.map V.int) ∧ Q (.bl (!decide (ns = ms))) H
theorem op_eqL {X : Cx} (hu : X.A.units + 64 < cLine) : OpR X (compareOp .Eq) (rEqL X.K) := by
  intro pins s σ H x y u v Q I rx ry h
  obtain ⟨a, b, ns, ms, rfl, rfl, ha, hb, q⟩ := h
  exact op_eqD hu pins s σ H _ _ u v Q I rx ry ⟨_, _, dp_list ha, dp_list hb, shaped_list ns, shaped_list ms, by rw [PyData.eqv, eqv_ints]; exact q⟩
theorem op_neL {X : Cx} (hu : X.A.units + 64 < cLine) : OpR X (compareOp .NotEq) (rNeL X.K) := by
  intro pins s σ H x y u v Q I rx ry h
  obtain ⟨a, b, ns, ms, rfl, rfl, ha, hb, q⟩ := h
  exact op_neD hu pins s σ H _ _ u v Q I rx ry ⟨_, _, dp_list ha, dp_list hb, shaped_list ns, shaped_list ms, by rw [PyData.eqv, eqv_ints]; exact q⟩
theorem cutV_mem {xs : List V} {lo hi : Option Int} {v : V} (h : v ∈ cutV xs lo hi) : v ∈ xs := by
  unfold cutV at h
  exact List.mem_of_mem_drop (List.mem_of_mem_take h)
/-- the first k of a list of ints -/
theorem cutV_to (ns : List Int) (k : Nat) : cutV (ns.map V.int) none (some (k : Int)) = (ns.take k).map V.int := by
  unfold cutV
  rw [HT.sIx_none, HT.sIx_nat, List.drop_zero, Nat.sub_zero, List.length_map, ← List.map_take, ← List.take_eq_take_min]
end
end Lw
namespace Lw
open PySem PySem.Spec PyProof.Rows L2 AD
section
variable {P : Program} {w : World} {K : PySem.W.Frag} {mg : Str → Option Value} {base : Heap}
variable {fa : Nat → Addr} {fd : Nat → FuncData} {tk : Nat → Tok}
/-! ### how many different tuples -/
/-- len(set(xs)), xs a list of tuples of ints: as many as xs has, just where no two are alike -/
def tLenSetT (K : PySem.W.Frag) (m : Nat) (ta : TE) : TE := fun σ H Q => ta σ H fun x H1 => ∃ (l : Addr) (ks : List (Addr × List Int)), x = V.ref l ∧ SqL K H1 l (ks.map fun p => V.ref p.1) ∧ (∀ p ∈ ks, SqT K H1 p.1 (p.2.map V.int)) ∧ ks.length < m ∧
  ∀ n : Nat, (n = ks.length ↔ (ks.map (·.2)).Nodup) → Q (.int n) H1
theorem pe_lenSetT {X : Cx} {a : Expr} {ta : TE} {p p2 q pos : Pos} (hc : X.calm = true) (hg : Gl X "len") (hm : X.mg "len" = none) (hg2 : Gl X "set") (hm2 : X.mg "set" = none) (hu : X.A.units + 64 < cLine) (ha : PE X a ta)
    (na : starEach [a] X.env = (false, eval a X.env) :: starEach [] X.env := by rfl) : PE X (.Call (.Name "len" p) [.Call (.Name "set" p2) [a] [] q] [] pos) (tLenSetT X.K 64 ta) := by
  refine ⟨fun pins s σ H Q I h => Call_ (ld_blt I hg hm PySem.boot_len (callWith_builtin1 (args_cons ?_ rfl) rfl rfl))⟩
  refine Call_ (ld_blt I hg2 hm2 boot_set (callWith_type1 (args_cons (thn (ha.run pins s σ H _ I h) fun v s1 h1 => args_nil ?_) na) na rfl))
  obtain ⟨x, H1, J, rx, l, ks, rfl, hl, hk, hf, q1⟩ := h1
  cases rx
  obtain ⟨its, rv, pl, hz⟩ := J.list hl
  refine call_set_tups (P := X.prog) (w := X.w) ks (J.ok.hd hc) pl.isList (by simpa using refs_of_vals rv) (fun p hp => J.isT (hk p hp)) hf (by omega) fun h' tk L es ep t R g k => args_nil ?_
  obtain ⟨o, ho, hex, hd⟩ := R.ob
  have hsz : es.size = L.length := by
    have e := congrArg List.length R.rows
    unfold rowsOf at e
    rw [Array.length_toList, List.length_map] at e
    exact e
  have hfit : t.fits es.size = true := R.fits (s := { s1 with heap := h', toks := tk })
  have few := R.few
  have J2 : Inv X pins σ H1 { s1 with heap := h', toks := tk } := J.kept fun b o e => k b o e
  have hB := once_len (A := ks.map (·.2)) (B := L.map (·.2)) R.nd (fun x hx => ?_) (fun x hx => ?_)
  · refine call_len_set ho hex hd hfit (by omega) ⟨.int es.size, H1, J2.tok _, ⟨_, rfl⟩, q1 es.size ?_⟩
    rw [hsz]
    rw [List.length_map, List.length_map] at hB
    exact hB.2
  · obtain ⟨p, hp, e⟩ := List.mem_map.mp hx
    exact List.mem_map.mpr ⟨p, List.mem_of_mem_take (g.sub p hp), e⟩
  · obtain ⟨p, hp, e⟩ := List.mem_map.mp hx
    rw [← e]
    exact g.all p (by rw [List.take_length]; exact hp)
end
end Lw
namespace Lw
open PySem PySem.Spec PyProof.Rows L2 AD
section
variable {P : Program} {w : World} {K : PySem.W.Frag} {mg : Str → Option Value} {base : Heap}
variable {fa : Nat → Addr} {fd : Nat → FuncData} {tk : Nat → Tok}
/-! ### first_same -/
theorem getD_at {ns : List Int} {c : Nat} (h : c < ns.length) : ns[c]? = some (ns.getD c 0) := by
  rw [List.getD_eq_getElem?_getD, List.getElem?_eq_getElem h]
  rfl
theorem atD {ns : List Int} {c : Nat} (h : c < ns.length) : atI (ns.map V.int) (c : Int) = some (.int (ns.getD c 0)) := by
  refine atI_nat ?_
  rw [List.getElem?_map, getD_at h]
  rfl
theorem putK_len (kvs : List (Key × V)) (k : Key) (v : V) : (putK kvs k v).length ≤ kvs.length + 1 := by
  unfold putK
  split
  · rw [List.length_map]; omega
  · rw [List.length_append]; exact Nat.le_refl _
def spFirst (K : PySem.W.Frag) : Sp := fun vs H Q _ => ∃ (a : Addr) (ns : List Int), vs = [.ref a] ∧ SqL K H a (ns.map V.int) ∧ ns.length ≤ 1000 ∧ (∀ H', Apt ns → Same H H' → Q .non H') ∧
  ∀ (i j d : Nat) (H' : Hp) (t : Addr), 1 ≤ d → i < j → j + d < ns.length → up ns i d = up ns j d → Same H H' → H' t = some (.tup [.int i, .int j, .int d]) → Q (.ref t) H'
theorem ok_first_same (T : Txt K mg fa fd tk) : FnOk P w K mg base CX0 1 (fa 0) (fd 0) ["dots"] (spFirst K) := by
  refine T.F_first_same.ok sc_first_same (fun vs H Q E h => ?_) (fun cdv A outer s H vs Q E hr h => ?_)
  · obtain ⟨a, ns, rfl, _⟩ := h
    rfl
  · obtain ⟨a, ns, rfl, hS, hn, q0, q1⟩ := h
    have hu1 := hu_of hr
    refine ⟨_, (pss_cons (ps_for PassesOwn.never rfl (pi_range2 (by rfl) T.m_range (pa_cons pe_int (pa_cons (pe_callB call_len_seq (by rfl) T.m_len (by decide +kernel) (pa_cons (pv 0) pa_nil)) pa_nil))) (pg_name (i := 1) sc_first_same.nd rfl (.inl rfl)) (pss_cons (ps_set (i := 2) sc_first_same.nd rfl (.inl rfl) pe_dnewK)
      (pss_one (ps_for PassesOwn.never rfl (pi_range1 (by rfl) T.m_range (pa_cons (pe_op op_sub (pe_callB call_len_seq (by rfl) T.m_len (by decide +kernel) (pa_cons (pv 0) pa_nil)) (pv 1)) pa_nil)) (pg_name (i := 3) sc_first_same.nd rfl (.inl rfl)) (pss_cons (ps_set (i := 4) sc_first_same.nd rfl (.inl rfl) (pe_op op_sub (pe_ix ix_list (pv 0) (pe_op op_add (pv 3) (pv 1)) (fun _ _ => rfl)) (pe_ix ix_list (pv 0) (pv 3) (fun _ _ => rfl))))
      (pss_cons (ps_if (pt_cmp (pc_din hu1 (pv 4) (pv 2))) (pss_one (ps_ret (pe_tup (pa_cons (pe_dget hu1 (pv 2) (pv 4) (fun _ _ => rfl)) (pa_cons (pv 3) (pa_cons (pv 1) pa_nil)))))) pss_nil)
      (pss_one (ps_dput hu1 (pv 2) (pv 4) (pv 3) rfl))))))))
      (pss_one (ps_ret pe_non))), ?_⟩
    have hlen : ((ns.map V.int).length : Int) = (ns.length : Int) := by rw [List.length_map]
    refine ⟨_, rfl, a, _, rfl, .inl hS, 1, _, rfl, ⟨by decide, by decide, by omega, by omega⟩, ?_⟩
    refine for_it (walk_range (lo := 1) (n := (((ns.map V.int).length : Int) - 1).toNat)) (fun i σ H' => Same H H' ∧ (∀ d i' j, 1 ≤ d → d < i + 1 → i' < j → j + d < ns.length → up ns i' d ≠ up ns j d) ∧ ∃ y1 y2 y3 y4, σ = [some (.ref a), y1, y2, y3, y4]) ⟨Same.refl H, fun d i' j d1 d2 => by omega, none, none, none, none, rfl⟩ (fun _ _ _ _ _ => True.intro) (fun i x σ H2 H3 hi hP hY => ?_) (fun σ H2 hP => ?_)
    · obtain ⟨sm, hap, y1, y2, y3, y4, rfl⟩ := hP
      obtain ⟨rfl, rfl⟩ := hY
      have hi2 : i + 1 < ns.length := by omega
      refine fun sd nsd => ?_
      have hS3 := (sm.trans (same_upd (o := .dK []) nsd)).seq hS
      refine ⟨_, rfl, a, _, rfl, .inl hS3, _, rfl, _, _, rfl, rfl, _, rfl, by omega, by omega, ?_⟩
      refine for_it (walk_range (lo := 0) (n := (((ns.map V.int).length : Int) - (1 + (i : Int))).toNat)) (fun c σ H' => Same H H' ∧ (∃ kvs, H' sd = some (.dK kvs) ∧ kvs.length ≤ c ∧ (∀ u v, valV kvs (Sum.inl u) = some v → ∃ k : Nat, k < c ∧ v = .int k ∧ up ns k (i + 1) = u) ∧ (∀ k, k < c → (valV kvs (Sum.inl (up ns k (i + 1)))).isSome = true)) ∧ (∀ k j, k < j → j < c → up ns k (i + 1) ≠ up ns j (i + 1)) ∧ ∃ y3 y4, σ = [some (.ref a), some (.int (1 + (i : Int))), some (.ref sd), y3, y4])
        ⟨sm.trans (same_upd nsd), ⟨[], upd_same, Nat.le_refl _, fun u v e => (nomatch e), fun k hk => absurd hk (Nat.not_lt_zero k)⟩, fun k j _ hj => absurd hj (Nat.not_lt_zero j), y3, y4, rfl⟩ (fun _ _ _ _ _ => True.intro) (fun c x σ H4 H5 hc hP hY => ?_) (fun σ H4 hP => ?_)
      · obtain ⟨s4, ⟨kvs, hsd, hkl, hk1, hk2⟩, hdis, w3, w4, rfl⟩ := hP
        obtain ⟨rfl, rfl⟩ := hY
        have hS4 := s4.seq hS
        have hc2 : c + (i + 1) < ns.length := by omega
        have a1 : atI (ns.map V.int) (0 + (c : Int) + (1 + (i : Int))) = some (.int (ns.getD (c + (i + 1)) 0)) := by
          rw [show (0 : Int) + (c : Int) + (1 + (i : Int)) = ((c + (i + 1) : Nat) : Int) by omega]
          exact atD hc2
        have a2 : atI (ns.map V.int) (0 + (c : Int)) = some (.int (ns.getD c 0)) := by
          rw [Int.zero_add]
          exact atD (by omega)
        refine ⟨_, rfl, _, rfl, _, rfl, _, _, rfl, rfl, a, _, _, _, rfl, rfl, hS4, a1, _, rfl, _, rfl, a, _, _, _, rfl, rfl, hS4, a2, _, _, rfl, rfl, ?_⟩
        have hg : DGet H5 sd (.int (up ns c (i + 1))) (valV kvs (Sum.inl (up ns c (i + 1)))) := DGet.k (k := Sum.inl (up ns c (i + 1))) hsd
        refine ⟨_, rfl, _, rfl, sd, _, rfl, hg, _, rfl, ?_⟩
        cases ev : valV kvs (Sum.inl (up ns c (i + 1))) with
        | some v =>
          rw [ev] at hg
          obtain ⟨k, hk, rfl, hup⟩ := hk1 _ _ ev
          refine iteT ⟨_, rfl, _, rfl, sd, _, rfl, hg, _, rfl, _, rfl, by show 3 ≤ sizeLine; decide, fun t nt => ?_⟩
          refine q1 k c (i + 1) _ t (by omega) hk hc2 hup (s4.trans (same_upd nt)) ?_
          rw [upd_same, show ((i + 1 : Nat) : Int) = 1 + (i : Int) by omega]
          show some (HO.tup [V.int (k : Int), V.int (0 + (c : Int)), V.int (1 + (i : Int))]) = _
          rw [Int.zero_add]
        | none =>
          have hnew : ∀ k, k < c → up ns k (i + 1) ≠ up ns c (i + 1) := fun k hk e => by
            have h := hk2 k hk
            rw [e, ev] at h
            cases h
          refine iteF ⟨_, rfl, _, rfl, _, rfl, sd, _, rfl, DPut.k (k := Sum.inl (up ns c (i + 1))) hsd (small1000 (by omega)), ?_⟩
          refine ⟨fun x o h => ?_, ⟨_, upd_same, ?_, fun u v e => ?_, fun k hk => ?_⟩, fun k j hkj hj => ?_, _, _, rfl⟩
          · by_cases z : x = sd
            · subst z
              exact absurd ((sm x o h).symm.trans nsd) (by simp)
            · rw [upd_ne z]
              exact s4 x o h
          · exact Nat.le_trans (putK_len _ _ _) (by omega)
          · rw [valV_put] at e
            by_cases z : (Sum.inl u : Key) = Sum.inl (up ns c (i + 1))
            · rw [if_pos z] at e
              refine ⟨c, by omega, ?_, (Sum.inl.inj z).symm⟩
              have e2 : V.int (0 + (c : Int)) = v := Option.some.inj e
              rw [← e2, Int.zero_add]
            · rw [if_neg z] at e
              obtain ⟨k, hk, r⟩ := hk1 u v e
              exact ⟨k, by omega, r⟩
          · rw [valV_put]
            by_cases z : k = c
            · rw [z, if_pos rfl]
              rfl
            · split
              · rfl
              · exact hk2 k (by omega)
          · by_cases z : j = c
            · rw [z]
              exact hnew k (by omega)
            · exact hdis k j hkj (by omega)
      · obtain ⟨s4, hkv, hdis, w3, w4, rfl⟩ := hP
        refine ⟨s4, fun d k j d1 d2 hkj hjd => ?_, _, _, _, _, rfl⟩
        by_cases z : d = i + 1
        · subst z
          exact hdis k j hkj (by omega)
        · exact hap d k j d1 (by omega) hkj hjd
    · obtain ⟨sm, hap, y1, y2, y3, y4, rfl⟩ := hP
      exact q0 H2 (fun d i j d1 hij hjd => hap d i j d1 (by omega) hij hjd) sm
/-! ### answers -/
/-- an Apart's own word -/
def spApShows (K : PySem.W.Frag) : Sp := fun vs H Q _ => ∃ (x a : Addr) (ns : List Int), vs = [.ref x, .ref a] ∧ SqL K H a (ns.map V.int) ∧ ns.length ≤ 1000 ∧ ∀ (b : Bool) (H' : Hp), (b = true ↔ Apt ns) → Same H H' → Q (.bl b) H'
theorem not_apt {ns : List Int} {i j d : Nat} (h1 : 1 ≤ d) (h2 : i < j) (h3 : j + d < ns.length) (e : up ns i d = up ns j d) : ¬ Apt ns := fun h => h d i j h1 h2 h3 e
theorem ok_Apart_shows (T : Txt K mg fa fd tk) : FnOk P w K mg base CX0 2 (fa 1) (fd 1) ["self", "dots"] (spApShows K) := by
  refine T.F_Apart_shows.ok sc_Apart_shows (fun vs H Q E h => ?_) (fun cdv A outer s H vs Q E hr h => ?_)
  · obtain ⟨x, a, ns, rfl, _⟩ := h
    rfl
  · obtain ⟨x, a, ns, rfl, hS, hn, q⟩ := h
    refine ⟨_, (pss_one (ps_ret (pe_cmpR op_isN (pe_call (ok_first_same T) (hr.mono (by decide)) (by rfl) T.g_first_same T.F_first_same.kp T.b_first_same .nil pass0 (pa_cons (pv 1) pa_nil)) pe_non (nomark _)))), ?_⟩
    refine ⟨_, rfl, a, ns, rfl, hS, hn, fun H' ap s1 => ⟨rfl, q true H' ⟨fun _ => ap, fun _ => rfl⟩ s1⟩, fun i j d H' t h1 h2 h3 e s1 _ => ⟨rfl, q false H' ⟨fun z => (nomatch z), fun z => absurd z (not_apt h1 h2 h3 e)⟩ s1⟩⟩
/-- a Same with these fields -/
def IsSame (H : Hp) (C x : Addr) (i j d : Int) : Prop := ∃ dx, H x = some (.ins C dx [("first", .int i), ("second", .int j), ("across", .int d)])
def spSameInit (C : Addr) : Sp := fun vs H Q _ => ∃ (x dx : Addr) (i j d : Int), vs = [.ref x, .int i, .int j, .int d] ∧ H x = some (.ins C dx []) ∧ Q .non (upd H x (.ins C dx [("first", .int i), ("second", .int j), ("across", .int d)]))
theorem ok_Same_init (T : Txt K mg fa fd tk) : FnOk P w K mg base CX0 1 (fa 2) (fd 2) ["self", "first", "second", "across"] (spSameInit (fa 13)) := by
  refine T.F_Same_init.ok sc_Same_init (fun vs H Q E h => ?_) (fun cdv A outer s H vs Q E hr h => ?_)
  · obtain ⟨x, dx, i, j, d, rfl, _⟩ := h
    rfl
  · obtain ⟨x, dx, i, j, d, rfl, hx, q⟩ := h
    refine ⟨_, (pss_cons (ps_fld (pv 0) (pv 1) rfl)
      (pss_cons (ps_fld (pv 0) (pv 2) rfl)
      (pss_one (ps_fld (pv 0) (pv 3) rfl)))), ?_⟩
    refine ⟨_, rfl, _, rfl, x, _, dx, _, rfl, hx, T.in_Same.cl, T.na_Same_first, by show 0 < 1000; decide, ?_⟩
    refine ⟨_, rfl, _, rfl, x, _, dx, _, rfl, upd_same, T.in_Same.cl, T.na_Same_second, by show 1 < 1000; decide, ?_⟩
    rw [upd_upd]
    refine ⟨_, rfl, _, rfl, x, _, dx, _, rfl, upd_same, T.in_Same.cl, T.na_Same_across, by show 2 < 1000; decide, ?_⟩
    rw [upd_upd]
    exact q
/-- whether what a Same tells is so -/
def Sow (ns : List Int) (i j d : Int) : Prop := 0 ≤ i ∧ i < j ∧ 1 ≤ d ∧ d < (ns.length : Int) - j ∧ up ns i.toNat d.toNat = up ns j.toNat d.toNat
def spSaShows (K : PySem.W.Frag) (C : Addr) : Sp := fun vs H Q _ => ∃ (x a : Addr) (ns : List Int) (i j d : Int), vs = [.ref x, .ref a] ∧ IsSame H C x i j d ∧ SqL K H a (ns.map V.int) ∧ ns.length ≤ 1000 ∧ ∀ b : Bool, (b = true ↔ Sow ns i j d) → Q (.bl b) H
theorem atDI {ns : List Int} {c d : Int} (h0 : 0 ≤ c) (h1 : 0 ≤ d) (h : c + d < (ns.length : Int)) : atI (ns.map V.int) (c + d) = some (.int (ns.getD (c.toNat + d.toNat) 0)) := by
  have e : c + d = ((c.toNat + d.toNat : Nat) : Int) := by omega
  rw [e]
  exact atD (by omega)
theorem atDJ {ns : List Int} {c : Int} (h0 : 0 ≤ c) (h : c < (ns.length : Int)) : atI (ns.map V.int) c = some (.int (ns.getD c.toNat 0)) := by
  have e : c = ((c.toNat : Nat) : Int) := by omega
  rw [e]
  exact atD (by omega)
theorem ok_Same_shows (T : Txt K mg fa fd tk) : FnOk P w K mg base CX0 1 (fa 3) (fd 3) ["self", "dots"] (spSaShows K (fa 13)) := by
  refine T.F_Same_shows.ok sc_Same_shows (fun vs H Q E h => ?_) (fun cdv A outer s H vs Q E hr h => ?_)
  · obtain ⟨x, a, ns, i, j, d, rfl, _⟩ := h
    rfl
  · obtain ⟨x, a, ns, i, j, d, rfl, ⟨dx, hx⟩, hS, hn, q⟩ := h
    have c := T.in_Same.cl
    have n1 := T.na_Same_first
    have n2 := T.na_Same_second
    have n3 := T.na_Same_across
    have hlen : ((ns.map V.int).length : Int) = (ns.length : Int) := by rw [List.length_map]
    refine ⟨_, (pss_cons (ps_if (PW.pt (pw_or (pt_not (pt_chain op_le op_lt pe_int (pe_fld (pv 0) rfl) (pe_fld (pv 0) rfl))) (pw_or1 (pt_not (pt_chain op_le op_lt pe_int (pe_fld (pv 0) rfl) (pe_op op_sub (pe_callB call_len_seq (by rfl) T.m_len (by decide +kernel) (pa_cons (pv 1) pa_nil)) (pe_fld (pv 0) rfl))))))) (pss_one (ps_ret pe_bl)) pss_nil)
      (pss_cons (ps_set (i := 2) sc_Same_shows.nd rfl (.inl rfl) (pe_op op_sub (pe_ix ix_list (pv 1) (pe_op op_add (pe_fld (pv 0) rfl) (pe_fld (pv 0) rfl)) (fun _ _ => rfl)) (pe_ix ix_list (pv 1) (pe_fld (pv 0) rfl) (fun _ _ => rfl))))
      (pss_one (ps_ret (pe_cmpR op_eq (pv 2) (pe_op op_sub (pe_ix ix_list (pv 1) (pe_op op_add (pe_fld (pv 0) rfl) (pe_fld (pv 0) rfl)) (fun _ _ => rfl)) (pe_ix ix_list (pv 1) (pe_fld (pv 0) rfl) (fun _ _ => rfl))) (nomark _)))))), ?_⟩
    have no : ¬ Sow ns i j d → Q (.bl false) H := fun z => q false ⟨fun y => (nomatch y), fun y => absurd y z⟩
    refine ⟨_, rfl, x, _, dx, _, _, rfl, hx, c, n1, rfl, _, _, rfl, rfl, _, rfl, ite2 (fun e1 => ?_) (fun e1 => ?_)⟩
    · have i0 := dT e1
      refine ⟨_, rfl, x, _, dx, _, _, rfl, hx, c, n2, rfl, _, _, rfl, rfl, _, rfl, ?_⟩
      by_cases hij : i < j
      · rw [decide_eq_true hij]
        refine iteF ⟨_, rfl, x, _, dx, _, _, rfl, hx, c, n3, rfl, _, _, rfl, rfl, _, rfl, ite2 (fun e2 => ?_) (fun e2 => ?_)⟩
        · have d1 := dT e2
          refine ⟨_, rfl, a, _, rfl, .inl hS, _, rfl, x, _, dx, _, _, rfl, hx, c, n2, rfl, _, _, rfl, rfl, _, _, rfl, rfl, _, rfl, ?_⟩
          by_cases hd : d < (ns.length : Int) - j
          · rw [hlen, decide_eq_true hd]
            refine iteF ?_
            refine ⟨_, rfl, _, rfl, x, _, dx, _, _, rfl, hx, c, n1, rfl, _, rfl, x, _, dx, _, _, rfl, hx, c, n3, rfl, _, _, rfl, rfl, a, _, _, _, rfl, rfl, hS, atDI i0 (by omega) (by omega), _, rfl, _, rfl, x, _, dx, _, _, rfl, hx, c, n1, rfl, a, _, _, _, rfl, rfl, hS, atDJ i0 (by omega), _, _, rfl, rfl, ?_⟩
            refine ⟨_, rfl, _, rfl, _, rfl, x, _, dx, _, _, rfl, hx, c, n2, rfl, _, rfl, x, _, dx, _, _, rfl, hx, c, n3, rfl, _, _, rfl, rfl, a, _, _, _, rfl, rfl, hS, atDI (by omega) (by omega) (by omega), _, rfl, _, rfl, x, _, dx, _, _, rfl, hx, c, n2, rfl, a, _, _, _, rfl, rfl, hS, atDJ (by omega) (by omega), _, _, rfl, rfl, rfl, ?_⟩
            refine q _ ?_
            rw [dec_vint]
            exact ⟨fun z => ⟨i0, hij, d1, hd, z⟩, fun z => z.2.2.2.2⟩
          · rw [hlen, decide_eq_false hd]
            exact iteT (no fun z => hd z.2.2.2.1)
        · exact ⟨_, rfl, iteT (no fun z => dF e2 z.2.2.1)⟩
      · rw [decide_eq_false hij]
        exact iteT (no fun z => hij z.2.1)
    · exact ⟨_, rfl, iteT (no fun z => dF e1 z.1)⟩
end
end Lw
namespace Lw
open PySem PySem.Spec PyProof.Rows L2 AD
section
variable {P : Program} {w : World} {K : PySem.W.Frag} {mg : Str → Option Value} {base : Heap}
variable {fa : Nat → Addr} {fd : Nat → FuncData} {tk : Nat → Tok}
/-! ### the law's own defs -/
theorem bits_pow {z : Int} {k : Nat} (h : Builtin.Int.intBits z ≤ k) : z.natAbs < 2 ^ k := by
  unfold Builtin.Int.intBits at h
  split at h
  · rename_i e
    have e' : z = 0 := by simpa using e
    subst e'
    exact Nat.two_pow_pos k
  · exact Nat.lt_of_lt_of_le (Nat.lt_log2_self) (Nat.pow_le_pow_right (by decide) h)
theorem pow_bits {z : Int} {k : Nat} (h : z.natAbs < 2 ^ k) : Builtin.Int.intBits z ≤ k := by
  unfold Builtin.Int.intBits
  split
  · exact Nat.zero_le _
  · rename_i e
    have h0 : z.natAbs ≠ 0 := fun y => e (by simpa using y)
    exact (Nat.log2_lt h0).mpr h
theorem mulBig {i j : Int} {a b : Nat} (hi : i.natAbs < 2 ^ a) (hj : j.natAbs < 2 ^ b) (h : a + b ≤ 100000000) : IntMulOk i j := by
  have h1 := pow_bits hi
  have h2 := pow_bits hj
  have e : bitsLine = 134217728 := by decide
  unfold IntMulOk
  intro y
  rw [Bool.and_eq_true] at y
  have y2 := y.2
  unfold Builtin.Int.intTooBig at y2
  have y3 := of_decide_eq_true y2
  rw [e] at y3
  omega
theorem add_pow {i j : Int} {k : Nat} (hi : i.natAbs < 2 ^ k) (hj : j.natAbs < 2 ^ k) : (i + j).natAbs < 2 ^ (k + 1) := by
  have h := Int.natAbs_add_le i j
  rw [Nat.pow_succ]
  omega
theorem up_pow {i : Int} {k m : Nat} (hi : i.natAbs < 2 ^ k) (h : k ≤ m) : i.natAbs < 2 ^ m := Nat.lt_of_lt_of_le hi (Nat.pow_le_pow_right (by decide) h)
theorem mul_pow2 {i j : Int} {a b : Nat} (ha : i.natAbs < 2 ^ a) (hb : j.natAbs < 2 ^ b) : (i * j).natAbs < 2 ^ (a + b) := by
  rw [Int.natAbs_mul, Nat.pow_add]
  exact Nat.mul_lt_mul'' ha hb
/-- a number comes, which one is not told -/
def spNumber : Sp := fun vs H Q _ => ∃ (c a w : Int) (k : Nat), vs = [.int c, .int a, .int w] ∧ 0 ≤ a ∧ a ≤ 100000 ∧ c.natAbs < 2 ^ k ∧ 64 ≤ k ∧ k ≤ 2000000 ∧ ∀ n : Int, Q (.int n) H
theorem ok__law_number (T : Txt K mg fa fd tk) : FnOk P w K mg base CX0 1 (fa 4) (fd 4) ["_law_cell", "_law_at", "_law_whole"] spNumber := by
  refine T.F__law_number.ok sc__law_number (fun vs H Q E h => ?_) (fun cdv A outer s H vs Q E hr h => ?_)
  · obtain ⟨c, a, w', k, rfl, _⟩ := h
    rfl
  · obtain ⟨c, a, w', k, rfl, ha, ha2, hc, hk, hk2, q⟩ := h
    refine ⟨_, (pss_cons (ps_if (pt_cmpR op_ge (pv 0) (pe_op op_pow pe_int pe_int) (nomark _)) (pss_one (ps_ret (pe_op op_fdiv (pv 0) (pe_op op_add pe_int (pe_op op_mod (pv 1) pe_int))))) pss_nil)
      (pss_cons (ps_set (i := 3) sc__law_number.nd rfl (.inl rfl) (pe_op op_mod (pe_op op_add (pe_op op_mulB (pe_op op_add (pv 0) (pe_op op_mulB pe_int (pv 1))) pe_int) (pv 2)) pe_int))
      (pss_cons (ps_set (i := 4) sc__law_number.nd rfl (.inl rfl) (pe_op op_mulB (pv 3) (pe_op op_add (pe_op op_add (pv 0) (pe_op op_mulB pe_int (pv 1))) pe_int)))
      (pss_one (ps_ret (pe_op op_fdiv (pe_op op_mulB (pe_op op_mulB (pv 4) (pe_op op_add (pe_op op_add (pv 3) (pv 0)) pe_int)) (pe_op op_add (pe_op op_mulB (pv 3) (pv 3)) pe_int)) (pe_op op_add pe_int (pv 1)))))))), ?_⟩
    refine ⟨_, rfl, _, _, rfl, rfl, ⟨by decide, by decide, by decide⟩, _, _, rfl, rfl, _, rfl, ite2 (fun e => ?_) (fun e => ?_)⟩
    · refine ⟨_, rfl, _, rfl, _, _, rfl, rfl, (show (0 : Int) < 7 by decide), _, _, rfl, rfl, _, _, rfl, rfl, ?_, q _⟩
      show 0 < 1 + a % 7 ∧ 1 + a % 7 < 1073741824
      omega
    · have e1 : IntMulOk 977 a := mulL (by decide) (by decide)
      refine ⟨_, rfl, _, rfl, _, _, rfl, rfl, e1, _, _, rfl, rfl, _, _, rfl, rfl, mulR (by decide) (by decide), _, rfl, _, _, rfl, rfl, _, _, rfl, rfl, (show (0 : Int) < 2147483647 by decide), ?_⟩
      -- more
      have p32 : (2 : Nat) ^ 32 = 4294967296 := by decide
      have p64 : (2 : Nat) ^ 64 ≤ 2 ^ k := Nat.pow_le_pow_right (by decide) hk
      have p64' : (2 : Nat) ^ 64 = 18446744073709551616 := by decide
      have b1 : (c + 31 * a + 7).natAbs < 2 ^ (k + 1 + 1) := by
        refine add_pow (add_pow hc ?_) ?_
        · omega
        · rw [Nat.pow_succ]; omega
      have key : ∀ mx : Int, 0 ≤ mx → mx < 2147483647 → IntMulOk mx (c + 31 * a + 7) ∧ IntMulOk (mx * (c + 31 * a + 7)) (mx + c + 5) ∧ IntMulOk mx mx ∧ ∀ i, IntMulOk i (mx * mx + 11) := by
        intro mx m0 m1
        have b2 : mx.natAbs < 2 ^ 32 := by omega
        have b3 : (mx * (c + 31 * a + 7)).natAbs < 2 ^ (32 + (k + 1 + 1)) := mul_pow2 b2 b1
        have b4 : (mx + c + 5).natAbs < 2 ^ (k + 1 + 1) := by
          refine add_pow (add_pow ?_ hc) ?_
          · omega
          · rw [Nat.pow_succ]; omega
        have m2 : mx * mx ≤ 2147483647 * mx := Int.mul_le_mul_of_nonneg_right (Int.le_of_lt m1) m0
        have m3 : 0 ≤ mx * mx := Int.mul_nonneg m0 m0
        exact ⟨mulL (by omega) (by omega), mulBig b3 b4 (by omega), mulL (by omega) (by omega), fun i => mulR (by omega) (by omega)⟩
      obtain ⟨k1, k2, k3, k4⟩ := key (((c + 977 * a) * 48271 + w') % 2147483647) (Int.emod_nonneg _ (by decide)) (Int.emod_lt_of_pos _ (by decide))
      refine ⟨_, rfl, _, rfl, _, rfl, _, _, rfl, rfl, mulL (by decide) (by decide), _, _, rfl, rfl, _, _, rfl, rfl, _, _, rfl, rfl, k1, ?_⟩
      refine ⟨_, rfl, _, rfl, _, rfl, _, _, rfl, rfl, _, _, rfl, rfl, _, _, rfl, rfl, k2, ?_⟩
      refine ⟨_, rfl, _, rfl, _, _, rfl, rfl, k3, _, _, rfl, rfl, _, _, rfl, rfl, k4 _, _, rfl, _, _, rfl, rfl, _, _, rfl, rfl, ?_, q _⟩
      show 0 < 1009 + a ∧ 1009 + a < 1073741824
      omega
end
end Lw
namespace Lw
open PySem PySem.Spec PyProof.Rows L2 AD
section
variable {P : Program} {w : World} {K : PySem.W.Frag} {mg : Str → Option Value} {base : Heap}
variable {fa : Nat → Addr} {fd : Nat → FuncData} {tk : Nat → Tok}
/-! ### the cells -/
theorem cast_ne0 {n : Nat} (h : n ≠ 0) : (0 : Int) < (n : Int) := by omega
theorem six_bits : (6 : Int).natAbs < 2 ^ 1048576 := Nat.lt_of_lt_of_le (by decide : (6 : Nat) < 2 ^ 3) (Nat.pow_le_pow_right (by decide) (by decide))
def Small (ns : List Int) : Prop := ns.length ≤ 63 ∧ ∀ z ∈ ns, Builtin.Int.intBits z ≤ 1048576
/-- the cells: those of the script, or a 6 -/
def cellsOf (ns : List Int) : List Int := if ns = [] then [6] else ns
theorem cells_len {ns : List Int} (h : Small ns) : 1 ≤ (cellsOf ns).length ∧ (cellsOf ns).length ≤ 63 := by
  unfold cellsOf
  split
  · exact ⟨by decide, by decide⟩
  · rename_i e
    refine ⟨?_, h.1⟩
    cases ns with
    | nil => exact absurd rfl e
    | cons _ _ => exact Nat.succ_le_succ (Nat.zero_le _)
theorem cells_bits {ns : List Int} (h : Small ns) : ∀ z ∈ cellsOf ns, z.natAbs < 2 ^ 1048576 := by
  unfold cellsOf
  split
  · intro z hz
    rw [List.mem_singleton.mp hz]
    exact six_bits
  · exact fun z hz => bits_pow (h.2 z hz)
/-- an item of a list of ints, by a number from 0 on -/
theorem atI_ints {ns : List Int} {z : Int} (h0 : 0 ≤ z) (h1 : z < (ns.length : Int)) : ∃ y ∈ ns, atI (ns.map V.int) z = some (.int y) := by
  have h2 : z.toNat < ns.length := by omega
  refine ⟨ns[z.toNat], List.getElem_mem h2, at_of (j := z.toNat) (by omega) ?_⟩
  rw [List.getElem?_map, List.getElem?_eq_getElem h2]
  rfl
end
end Lw
namespace Lw
open PySem PySem.Spec PyProof.Rows L2 AD
section
variable {P : Program} {w : World} {K : PySem.W.Frag} {mg : Str → Option Value} {base : Heap}
variable {fa : Nat → Addr} {fd : Nat → FuncData} {tk : Nat → Tok}
/-! ### lists of numbers -/
/-- a list of numbers from 0 on -/
def nats (l : List Nat) : List V := l.map fun n : Nat => V.int (n : Int)
theorem nats_at {l : List Nat} {i : Nat} {x : V} (h : (nats l)[i]? = some x) : ∃ n ∈ l, x = .int (n : Int) := by
  unfold nats at h
  rw [List.getElem?_map] at h
  cases e : l[i]? with
  | none => rw [e] at h; cases h
  | some n =>
    rw [e] at h
    exact ⟨n, List.mem_of_getElem? e, (Option.some.inj h).symm⟩
theorem ints_at {l : List Int} {c : Nat} {z : Int} (h : l[c]? = some z) : atI (l.map V.int) (c : Int) = some (.int z) := by
  refine atI_nat ?_
  rw [List.getElem?_map, h]
  rfl
theorem nats_ints (l : List Nat) : nats l = (l.map fun n : Nat => (n : Int)).map V.int := by
  unfold nats
  rw [List.map_map]
  rfl
theorem rgV_nats (n : Nat) : rgV 0 (n : Int) = nats (List.range n) := by
  unfold rgV nats
  rw [show ((n : Int) - 0).toNat = n by omega]
  refine List.map_congr_left fun i _ => ?_
  rw [Int.zero_add]
theorem iteN {A B : Prop} {a b : V} (h : a = b) (q : B) : if (!decide (a = b)) = true then A else B := iteNS h q
end
end Lw
namespace Lw
open PySem PySem.Spec PyProof.Rows L2 AD
section
variable {P : Program} {w : World} {K : PySem.W.Frag} {mg : Str → Option Value} {base : Heap}
variable {fa : Nat → Addr} {fd : Nat → FuncData} {tk : Nat → Tok}
/-! ### the law's arrows -/
def spArrows (K : PySem.W.Frag) : Sp := fun vs H Q _ => ∃ (a : Addr) (ns : List Int), vs = [.ref a] ∧ SqL K H a (ns.map V.int) ∧ ns.length ≤ 1000 ∧
  ∀ (H' : Hp) (l : Addr) (ks : List (Addr × List Int)), Same H H' → ks.map (·.2) = arrows ns → H' l = some (.lst (ks.map fun p => V.ref p.1)) → (∀ p ∈ ks, H' p.1 = some (.tup (p.2.map V.int))) → Q (.ref l) H'
theorem ok__law_arrows (T : Txt K mg fa fd tk) : FnOk P w K mg base CX0 1 (fa 5) (fd 5) ["_law_dots"] (spArrows K) := by
  refine T.F__law_arrows.ok sc__law_arrows (fun vs H Q E h => ?_) (fun cdv A outer s H vs Q E hr h => ?_)
  · obtain ⟨a, ns, rfl, _⟩ := h
    rfl
  · obtain ⟨a, ns, rfl, hS, hn, q⟩ := h
    have hlen : ((ns.map V.int).length : Int) = (ns.length : Int) := by rw [List.length_map]
    refine ⟨_, (pss_cons (ps_set (i := 1) sc__law_arrows.nd rfl (.inl rfl) (pe_lst pa_nil))
      (pss_cons (ps_for PassesOwn.never rfl (pi_range1 (by rfl) T.m_range (pa_cons (pe_callB call_len_seq (by rfl) T.m_len (by decide +kernel) (pa_cons (pv 0) pa_nil)) pa_nil)) (pg_name (i := 2) sc__law_arrows.nd rfl (.inl rfl)) (pss_one (ps_for PassesOwn.never rfl (pi_range2 (by rfl) T.m_range (pa_cons (pe_op op_add (pv 2) pe_int) (pa_cons (pe_callB call_len_seq (by rfl) T.m_len (by decide +kernel) (pa_cons (pv 0) pa_nil)) pa_nil))) (pg_name (i := 3) sc__law_arrows.nd rfl (.inl rfl)) (pss_one (ps_expr (pe_bm PySem.F.plainAttrs_list PySem.F.slot_list_append PySem.F.type_list_append mt_append (pv 1) (pa_cons (pe_tup (pa_cons (pe_op op_sub (pv 3) (pv 2)) (pa_cons (pe_op op_sub (pe_ix ix_list (pv 0) (pv 3) (fun _ _ => rfl)) (pe_ix ix_list (pv 0) (pv 2) (fun _ _ => rfl))) pa_nil))) pa_nil)))))))
      (pss_one (ps_ret (pv 1))))), ?_⟩
    refine ⟨Nat.zero_le _, fun l nl => ?_⟩
    refine ⟨_, rfl, a, _, rfl, .inl ((same_upd nl).seq hS), _, rfl, by omega, by omega, ?_⟩
    let Kp : List (List Int) → Hp → Prop := fun xs H' => ∃ ks : List (Addr × List Int), ks.map (·.2) = xs ∧ H' l = some (.lst (ks.map fun p => V.ref p.1)) ∧ ∀ p ∈ ks, H' p.1 = some (.tup (p.2.map V.int))
    refine for_it (walk_range (lo := 0) (n := (((ns.map V.int).length : Int)).toNat)) (fun i σ H' => Same H H' ∧ (Kp ((List.range i).flatMap (arrowsTo ns ns.length)) H' ∧ ((List.range i).flatMap (arrowsTo ns ns.length)).length ≤ i * 1000) ∧ ∃ y2 y3, σ = [some (.ref a), some (.ref l), y2, y3]) ⟨same_upd nl, ⟨⟨[], rfl, upd_same, fun p hp => (nomatch hp)⟩, Nat.zero_le _⟩, none, none, rfl⟩ (fun _ _ _ _ _ => True.intro) (fun i x σ H2 H3 hi hP hY => ?_) (fun σ H2 hP => ?_)
    · obtain ⟨sm, ⟨hK, hKl⟩, y2, y3, rfl⟩ := hP
      obtain ⟨rfl, rfl⟩ := hY
      have hi2 : i < ns.length := by omega
      refine ⟨_, rfl, _, _, rfl, rfl, _, rfl, a, _, rfl, .inl (sm.seq hS), _, _, rfl, ⟨by omega, by omega, by omega, by omega⟩, ?_⟩
      refine for_it (walk_range (lo := 0 + (i : Int) + 1) (n := (((ns.map V.int).length : Int) - (0 + (i : Int) + 1)).toNat)) (fun j σ H' => Same H H' ∧ Kp ((List.range i).flatMap (arrowsTo ns ns.length) ++ (arrowsTo ns ns.length i).take j) H' ∧ ∃ y3, σ = [some (.ref a), some (.ref l), some (.int (0 + (i : Int))), y3]) ⟨sm, by rw [List.take_zero, List.append_nil]; exact hK, y3, rfl⟩ (fun _ _ _ _ _ => True.intro) (fun j x σ H4 H5 hj hP hY => ?_) (fun σ H4 hP => ?_)
      · obtain ⟨s4, ⟨ks, hk1, hk2, hk3⟩, w3, rfl⟩ := hP
        obtain ⟨rfl, rfl⟩ := hY
        have hS4 := s4.seq hS
        have hj2 : j < ns.length - (i + 1) := by omega
        have a1 : atI (ns.map V.int) (0 + (i : Int) + 1 + (j : Int)) = some (.int (ns.getD (i + 1 + j) 0)) := by
          rw [show (0 : Int) + (i : Int) + 1 + (j : Int) = ((i + 1 + j : Nat) : Int) by omega]
          exact atD (by omega)
        have a2 : atI (ns.map V.int) (0 + (i : Int)) = some (.int (ns.getD i 0)) := by
          rw [Int.zero_add]
          exact atD hi2
        refine ⟨_, rfl, .inl ⟨rfl, _, .of hk2⟩, _, rfl, _, rfl, _, _, rfl, rfl, _, rfl, _, rfl, a, _, _, _, rfl, rfl, hS4, a1, _, rfl, _, rfl, a, _, _, _, rfl, rfl, hS4, a2, _, _, rfl, rfl, by show 2 ≤ sizeLine; decide, fun t nt => ?_⟩
        have st := same_upd (o := .tup [V.int (0 + (i : Int) + 1 + (j : Int) - (0 + (i : Int))), V.int (ns.getD (i + 1 + j) 0 - ns.getD i 0)]) nt
        have hkl : ks.length = ((List.range i).flatMap (arrowsTo ns ns.length)).length + j := by
          have h := congrArg List.length hk1
          rw [List.length_map, List.length_append, List.length_take, arrowsTo_len] at h
          omega
        refine ⟨l, _, _, rfl, rfl, st _ _ hk2, ?_, fun x o h => ?_, ⟨ks ++ [(t, [((i + 1 + j : Nat) : Int) - (i : Int), ns.getD (i + 1 + j) 0 - ns.getD i 0])], ?_, ?_, fun p hp => ?_⟩, _, rfl⟩
        · rw [List.length_map, hkl, sizeLine_eq]
          have : i * 1000 ≤ 1000 * 1000 := Nat.mul_le_mul_right _ (by omega)
          omega
        · rw [upd_ne (ne_of_none h nl)]
          exact st _ _ (s4 _ _ h)
        · rw [List.map_append, hk1, List.take_add_one, arrowsTo_at hj2, ← List.append_assoc]
          rfl
        · rw [upd_same, List.map_append]
          rfl
        · have hne : p.1 ≠ l := by
            rcases List.mem_append.mp hp with h | h
            · exact ne_of (hk3 p h) hk2 (by intro z; cases z)
            · rw [List.mem_singleton.mp h]
              exact (ne_of_none hk2 nt).symm
          rw [upd_ne hne]
          rcases List.mem_append.mp hp with h | h
          · exact st _ _ (hk3 p h)
          · rw [List.mem_singleton.mp h, upd_same]
            show some (HO.tup [V.int (0 + (i : Int) + 1 + (j : Int) - (0 + (i : Int))), V.int (ns.getD (i + 1 + j) 0 - ns.getD i 0)]) = _
            rw [show (0 : Int) + (i : Int) + 1 + (j : Int) - (0 + (i : Int)) = ((i + 1 + j : Nat) : Int) - (i : Int) by omega]
            rfl
      · obtain ⟨s4, hK4, w3, rfl⟩ := hP
        rw [List.take_of_length_le (by rw [arrowsTo_len]; omega), ← flat_succ] at hK4
        refine ⟨s4, ⟨hK4, ?_⟩, _, _, rfl⟩
        rw [flat_succ, List.length_append, arrowsTo_len]
        omega
    · obtain ⟨sm, ⟨⟨ks, hk1, hk2, hk3⟩, _⟩, y2, y3, rfl⟩ := hP
      rw [show (((ns.map V.int).length : Int)).toNat = ns.length by omega] at hk1
      exact ⟨_, rfl, q _ l ks sm hk1 hk2 hk3⟩
def spApart (K : PySem.W.Frag) : Sp := fun vs H Q _ => ∃ (a : Addr) (ns : List Int), vs = [.ref a] ∧ SqL K H a (ns.map V.int) ∧ ns.length ≤ 1000 ∧ (arrows ns).length < 64 ∧ ∀ (b : Bool) (H' : Hp), (b = true ↔ Apt ns) → Same H H' → Q (.bl b) H'
theorem ok__law_apart (T : Txt K mg fa fd tk) : FnOk P w K mg base CX0 2 (fa 6) (fd 6) ["_law_dots"] (spApart K) := by
  refine T.F__law_apart.ok sc__law_apart (fun vs H Q E h => ?_) (fun cdv A outer s H vs Q E hr h => ?_)
  · obtain ⟨a, ns, rfl, _⟩ := h
    rfl
  · obtain ⟨a, ns, rfl, hS, hn, hm, q⟩ := h
    have hu := hr.units
    refine ⟨_, (pss_cons (ps_set (i := 1) sc__law_apart.nd rfl (.inl rfl) (pe_call (ok__law_arrows T) (hr.mono (by decide)) (by rfl) T.g__law_arrows T.F__law_arrows.kp T.b__law_arrows .nil pass0 (pa_cons (pv 0) pa_nil)))
      (pss_one (ps_ret (pe_cmpR op_eq (pe_lenSetT rfl (by rfl) T.m_len (by rfl) T.m_set hu (pv 1)) (pe_callB call_len_seq (by rfl) T.m_len (by decide +kernel) (pa_cons (pv 1) pa_nil)) (nomark _))))), ?_⟩
    refine ⟨_, rfl, a, ns, rfl, hS, hn, fun H1 l ks s1 e hl hk => ?_⟩
    have hkl : ks.length = (arrows ns).length := by
      have h := congrArg List.length e
      rw [List.length_map] at h
      exact h
    refine ⟨_, rfl, l, ks, rfl, .of hl, fun p hp => .of (hk p hp), by omega, fun n hn => ?_⟩
    rw [e, arrows_apt] at hn
    refine ⟨_, rfl, l, _, rfl, .inl (.of hl), rfl, q _ _ ?_ s1⟩
    rw [dec_vint, List.length_map, ← hn]
    omega
def spShown (K : PySem.W.Frag) (CA CS : Addr) : Sp := fun vs H Q _ => ∃ (x a : Addr) (ns : List Int), vs = [.ref a, .ref x] ∧ SqL K H a (ns.map V.int) ∧ ns.length ≤ 1000 ∧ (arrows ns).length < 64 ∧
  (((∃ dx, H x = some (.ins CA dx [])) ∧ ∀ (b : Bool) (H' : Hp), (b = true ↔ Apt ns) → Same H H' → Q (.bl b) H') ∨ ∃ i j d : Int, IsSame H CS x i j d ∧ ∀ (b : Bool) (H' : Hp), (b = true ↔ Sow ns i j d) → Same H H' → Q (.bl b) H')
theorem ok__law_shown (T : Txt K mg fa fd tk) : FnOk P w K mg base CX0 3 (fa 7) (fd 7) ["_law_dots", "_law_found"] (spShown K (fa 12) (fa 13)) := by
  refine T.F__law_shown.ok sc__law_shown (fun vs H Q E h => ?_) (fun cdv A outer s H vs Q E hr h => ?_)
  · obtain ⟨x, a, ns, rfl, _⟩ := h
    rfl
  · obtain ⟨x, a, ns, rfl, hS, hn, hm, h⟩ := h
    refine ⟨_, (pss_cons (ps_if (pt_val (pe_callB call_isi (by rfl) T.m_isinstance (by decide +kernel) (pa_cons (pv 1) (pa_cons (pe_glob (v := .ref _) rfl T.g_Apart rfl) pa_nil)))) (pss_one (ps_ret (pe_call (ok__law_apart T) (hr.mono (by decide)) (by rfl) T.g__law_apart T.F__law_apart.kp T.b__law_apart .nil pass0 (pa_cons (pv 0) pa_nil)))) pss_nil)
      (pss_cons (ps_if (PW.pt (pw_or (pt_not (pt_chain op_le op_lt pe_int (pe_fld (pv 1) rfl) (pe_fld (pv 1) rfl))) (pw_or1 (pt_not (pt_chain op_le op_lt pe_int (pe_fld (pv 1) rfl) (pe_op op_sub (pe_callB call_len_seq (by rfl) T.m_len (by decide +kernel) (pa_cons (pv 0) pa_nil)) (pe_fld (pv 1) rfl))))))) (pss_one (ps_ret pe_bl)) pss_nil)
      (pss_cons (ps_set (i := 2) sc__law_shown.nd rfl (.inl rfl) (pe_op op_sub (pe_ix ix_list (pv 0) (pe_op op_add (pe_fld (pv 1) rfl) (pe_fld (pv 1) rfl)) (fun _ _ => rfl)) (pe_ix ix_list (pv 0) (pe_fld (pv 1) rfl) (fun _ _ => rfl))))
      (pss_one (ps_ret (pe_cmpR op_eq (pv 2) (pe_op op_sub (pe_ix ix_list (pv 0) (pe_op op_add (pe_fld (pv 1) rfl) (pe_fld (pv 1) rfl)) (fun _ _ => rfl)) (pe_ix ix_list (pv 0) (pe_fld (pv 1) rfl) (fun _ _ => rfl))) (nomark _))))))), ?_⟩
    rcases h with ⟨⟨dx, hx⟩, q⟩ | ⟨i, j, d, ⟨dx, hx⟩, q'⟩
    · refine ⟨_, rfl, _, _, _, _, true, rfl, .own _, T.in_Apart.ty hx, T.ki_Apart_Apart, true, rfl, iteT ?_⟩
      exact ⟨_, rfl, a, ns, rfl, hS, hn, hm, q⟩
    · refine ⟨_, rfl, _, _, _, _, false, rfl, .own _, T.in_Same.ty hx, T.ki_Same_Apart, false, rfl, iteF ?_⟩
      have c := T.in_Same.cl
      have n1 := T.na_Same_first
      have n2 := T.na_Same_second
      have n3 := T.na_Same_across
      have q : ∀ b : Bool, (b = true ↔ Sow ns i j d) → Q (.bl b) H := fun b h => q' b H h (Same.refl H)
      have hlen : ((ns.map V.int).length : Int) = (ns.length : Int) := by rw [List.length_map]
      have no : ¬ Sow ns i j d → Q (.bl false) H := fun z => q false ⟨fun y => (nomatch y), fun y => absurd y z⟩
      refine ⟨_, rfl, x, _, dx, _, _, rfl, hx, c, n1, rfl, _, _, rfl, rfl, _, rfl, ite2 (fun e1 => ?_) (fun e1 => ?_)⟩
      · have i0 := dT e1
        refine ⟨_, rfl, x, _, dx, _, _, rfl, hx, c, n2, rfl, _, _, rfl, rfl, _, rfl, ?_⟩
        by_cases hij : i < j
        · rw [decide_eq_true hij]
          refine iteF ⟨_, rfl, x, _, dx, _, _, rfl, hx, c, n3, rfl, _, _, rfl, rfl, _, rfl, ite2 (fun e2 => ?_) (fun e2 => ?_)⟩
          · have d1 := dT e2
            refine ⟨_, rfl, a, _, rfl, .inl hS, _, rfl, x, _, dx, _, _, rfl, hx, c, n2, rfl, _, _, rfl, rfl, _, _, rfl, rfl, _, rfl, ?_⟩
            by_cases hd : d < (ns.length : Int) - j
            · rw [hlen, decide_eq_true hd]
              refine iteF ?_
              refine ⟨_, rfl, _, rfl, x, _, dx, _, _, rfl, hx, c, n1, rfl, _, rfl, x, _, dx, _, _, rfl, hx, c, n3, rfl, _, _, rfl, rfl, a, _, _, _, rfl, rfl, hS, atDI i0 (by omega) (by omega), _, rfl, _, rfl, x, _, dx, _, _, rfl, hx, c, n1, rfl, a, _, _, _, rfl, rfl, hS, atDJ i0 (by omega), _, _, rfl, rfl, ?_⟩
              refine ⟨_, rfl, _, rfl, _, rfl, x, _, dx, _, _, rfl, hx, c, n2, rfl, _, rfl, x, _, dx, _, _, rfl, hx, c, n3, rfl, _, _, rfl, rfl, a, _, _, _, rfl, rfl, hS, atDI (by omega) (by omega) (by omega), _, rfl, _, rfl, x, _, dx, _, _, rfl, hx, c, n2, rfl, a, _, _, _, rfl, rfl, hS, atDJ (by omega) (by omega), _, _, rfl, rfl, rfl, ?_⟩
              refine q _ ?_
              rw [dec_vint]
              exact ⟨fun z => ⟨i0, hij, d1, hd, z⟩, fun z => z.2.2.2.2⟩
            · rw [hlen, decide_eq_false hd]
              exact iteT (no fun z => hd z.2.2.2.1)
          · exact ⟨_, rfl, iteT (no fun z => dF e2 z.2.2.1)⟩
        · rw [decide_eq_false hij]
          exact iteT (no fun z => hij z.2.1)
      · exact ⟨_, rfl, iteT (no fun z => dF e1 z.1)⟩
/-- so many rows in some turn: a new list -/
def spOrder (K : PySem.W.Frag) : Sp := fun vs H Q _ => ∃ (a : Addr) (ns : List Int) (k m : Nat), vs = [.ref a, .int k, .int m] ∧ SqL K H a (ns.map V.int) ∧ Small ns ∧ k ≤ 1000 ∧ m ≤ 1000 ∧
  ∀ (H' : Hp) (l : Addr) (os : List Nat), os.Perm (List.range m) → Same H H' → H l = none → H' l = some (.lst (nats os)) → Q (.ref l) H'
theorem ok__law_order (T : Txt K mg fa fd tk) : FnOk P w K mg base CX0 2 (fa 8) (fd 8) ["_law_script", "_law_by", "_law_many"] (spOrder K) := by
  refine T.F__law_order.ok sc__law_order (fun vs H Q E h => ?_) (fun cdv A outer s H vs Q E hr h => ?_)
  · obtain ⟨a, ns, k, m, rfl, _⟩ := h
    rfl
  · obtain ⟨a, ns, k, m, rfl, hS, hsm, hk, hm, q⟩ := h
    have hu := hr.units
    refine ⟨_, (C8.pss_cut (ps_set (i := 3) sc__law_order.nd rfl (.inl rfl) (pe_ifExp (pt_cmpR (op_neL hu) (pv 0) (pe_lst pa_nil) (nomark _)) (pe_slice sl_list (pv 0) po_none (po_some pe_int)) (pe_lst (pa_cons pe_int pa_nil))))
      (pss_cons (ps_set (i := 4) sc__law_order.nd rfl (.inl rfl) (pe_lst pa_nil))
      (pss_cons (ps_for PassesOwn.never rfl (pi_range1 (by rfl) T.m_range (pa_cons (pv 2) pa_nil)) (pg_name (i := 5) sc__law_order.nd rfl (.inl rfl)) (pss_cons (ps_set (i := 6) sc__law_order.nd rfl (.inl rfl) (pe_call (ok__law_number T) (hr.mono (by decide)) (by rfl) T.g__law_number T.F__law_number.kp T.b__law_number .nil pass0 (pa_cons (pe_ix ix_list (pv 3) (pe_op op_mod (pe_op op_add (pv 5) (pv 1)) (pe_callB call_len_seq (by rfl) T.m_len (by decide +kernel) (pa_cons (pv 3) pa_nil))) (fun _ _ => rfl)) (pa_cons (pe_op op_add (pv 5) (pv 1)) (pa_cons (pv 2) pa_nil)))))
      (pss_one (ps_expr (pe_bm PySem.F.plainAttrs_list PySem.F.slot_list_insert PySem.F.type_list_insert mt_insert (pv 4) (pa_cons (pe_op op_mod (pv 6) (pe_op op_add (pv 5) pe_int)) (pa_cons (pv 5) pa_nil)))))))
      (pss_one (ps_ret (pv 4)))))), ?_⟩
    refine ⟨fun σ' H' => ∃ c, Same H H' ∧ H' c = some (.lst ((cellsOf ns).map V.int)) ∧ σ' = [some (.ref a), some (.int k), some (.int m), some (.ref c), none, none, none], ?_, fun σ' H1 hM => ?_⟩
    · refine ⟨_, rfl, Nat.zero_le _, fun e ne => ?_⟩
      have s0 := same_upd (o := .lst []) ne
      refine ⟨a, e, ns, [], rfl, rfl, s0.seq hS, .of upd_same, _, rfl, ite2 (fun e1 => ?_) (fun e1 => ?_)⟩
      · have e2 : ns ≠ [] := fun z => by
          rw [z] at e1
          cases e1
        refine ⟨_, rfl, 63, rfl, a, _, rfl, s0.seq hS, fun c nc => ⟨c, s0.trans (same_upd nc), ?_, rfl⟩⟩
        rw [upd_same, show (63 : Int) = ((63 : Nat) : Int) from rfl, cutV_to, List.take_of_length_le hsm.1]
        unfold cellsOf
        rw [if_neg e2]
      · have e2 : ns = [] := by
          by_cases z : ns = []
          · exact z
          · refine absurd ?_ e1
            rw [decide_eq_false z]
            rfl
        refine ⟨by show 1 ≤ sizeLine; decide, fun c nc => ⟨c, s0.trans (same_upd nc), ?_, rfl⟩⟩
        rw [upd_same]
        unfold cellsOf
        rw [if_pos e2]
        rfl
    obtain ⟨c, s1, hc, rfl⟩ := hM
    obtain ⟨hl1, hl2⟩ := cells_len hsm
    have el : (((cellsOf ns).map V.int).length : Int) = ((cellsOf ns).length : Int) := by rw [List.length_map]
    refine ⟨Nat.zero_le _, fun l nl => ?_⟩
    have hcl : l ≠ c := (ne_of_none hc nl).symm
    refine ⟨_, rfl, _, rfl, by omega, by omega, ?_⟩
    refine for_it (walk_range (lo := 0) (n := ((m : Int)).toNat)) (fun i σ H' => Same H H' ∧ H' c = some (.lst ((cellsOf ns).map V.int)) ∧ (∃ os : List Nat, os.Perm (List.range i) ∧ H' l = some (.lst (nats os))) ∧ ∃ y5 y6, σ = [some (.ref a), some (.int k), some (.int m), some (.ref c), some (.ref l), y5, y6]) ⟨s1.trans (same_upd nl), same_upd nl _ _ hc, ⟨[], List.Perm.refl _, upd_same⟩, none, none, rfl⟩ (fun _ _ _ _ _ => True.intro) (fun i x σ H2 H3 hi hP hY => ?_) (fun σ H2 hP => ?_)
    · obtain ⟨sm, hc2, ⟨os, hp, hl⟩, y5, y6, rfl⟩ := hP
      obtain ⟨rfl, rfl⟩ := hY
      have hq : SqL K H3 c ((cellsOf ns).map V.int) := .of hc2
      obtain ⟨y, hy, ey⟩ := atI_ints (ns := cellsOf ns) (z := (0 + (i : Int) + (k : Int)) % ((cellsOf ns).length : Int)) (Int.emod_nonneg _ (by omega)) (Int.emod_lt_of_pos _ (by omega))
      refine ⟨_, rfl, _, rfl, _, rfl, _, _, rfl, rfl, _, rfl, c, _, rfl, .inl hq, _, _, rfl, rfl, ?_, c, _, _, _, rfl, rfl, hq, ?_, _, rfl, _, rfl, _, _, rfl, rfl, _, rfl, y, 0 + (i : Int) + (k : Int), m, 1048576, rfl, by omega, by omega, cells_bits hsm y hy, by decide, by decide, fun n => ?_⟩
      · show (0 : Int) < (((cellsOf ns).map V.int).length : Int)
        omega
      · show atI ((cellsOf ns).map V.int) ((0 + (i : Int) + (k : Int)) % (((cellsOf ns).map V.int).length : Int)) = _
        rw [el]
        exact ey
      have n0 := Int.emod_nonneg n (show (0 : Int) + (i : Int) + 1 ≠ 0 by omega)
      have n1 := Int.emod_lt_of_pos n (show (0 : Int) < (0 : Int) + (i : Int) + 1 by omega)
      have hol := hp.length_eq
      rw [List.length_range] at hol
      refine ⟨_, rfl, .inl ⟨rfl, _, .of hl⟩, _, rfl, _, rfl, _, _, rfl, rfl, _, _, rfl, rfl, (show (0 : Int) < (0 : Int) + (i : Int) + 1 by omega), _, rfl, l, _, _, _, rfl, rfl, hl, ?_, n0, ?_, ?_⟩
      · unfold nats
        rw [List.length_map]
        exact small1000 (by omega)
      · show n % ((0 : Int) + (i : Int) + 1) < 2 ^ 63
        omega
      · refine ⟨fun x o h => ?_, ?_, ⟨_, range_snoc_perm (i := (n % ((0 : Int) + (i : Int) + 1)).toNat) hp, ?_⟩, _, _, rfl⟩
        · by_cases z : x = l
          · subst z
            exact absurd ((s1 x o h).symm.trans nl) (by simp)
          · rw [upd_ne z]
            exact sm x o h
        · rw [upd_ne hcl.symm]
          exact hc2
        · rw [upd_same]
          unfold nats
          rw [List.map_append, List.map_append, List.map_take, List.map_drop]
          show some (HO.lst (_ ++ [V.int (0 + (i : Int))] ++ _)) = _
          rw [Int.zero_add]
          rfl
    · obtain ⟨sm, hc2, ⟨os, hp, hl⟩, y5, y6, rfl⟩ := hP
      rw [Int.toNat_natCast] at hp
      have nl0 : H l = none := s1.free nl
      exact ⟨_, rfl, q _ l os hp sm nl0 hl⟩
def spSays : Sp := fun vs H Q _ => ∃ b c : Bool, vs = [.bl b, .bl c] ∧ Q (.bl (decide (b = c))) H
theorem ok__law_says (T : Txt K mg fa fd tk) : FnOk P w K mg base CX0 1 (fa 9) (fd 9) ["_law_said", "_law_due"] spSays := by
  refine T.F__law_says.ok sc__law_says (fun vs H Q E h => ?_) (fun cdv A outer s H vs Q E hr h => ?_)
  · obtain ⟨b, c, rfl, _⟩ := h
    rfl
  · obtain ⟨b, c, rfl, q⟩ := h
    refine ⟨_, (pss_one (ps_ret (pe_and (pe_callB call_isi (by rfl) T.m_isinstance (by decide +kernel) (pa_cons (pv 0) (pa_cons (pe_bltn (v := .ty "bool") (u := .type "bool") (by rfl) T.m_bool (by decide +kernel) rfl) pa_nil))) (pe_one (pe_cmpR op_eq (pv 0) (pv 1) (nomark _)))))), ?_⟩
    refine ⟨_, rfl, _, _, _, _, true, rfl, .ty _, .base (.bl _), kit_ty (by decide +kernel), true, rfl, iteT ?_⟩
    refine ⟨_, rfl, _, rfl, rfl, ?_⟩
    rw [show decide (V.bl b = V.bl c) = decide (b = c) by
      rw [decide_eq_decide]
      exact ⟨fun h => V.bl.inj h, fun h => by rw [h]⟩]
    exact q
end
end Lw
namespace Lw
open PySem PySem.Spec PyProof.Rows L2 AD
section
variable {P : Program} {w : World} {K : PySem.W.Frag} {mg : Str → Option Value} {base : Heap}
variable {fa : Nat → Addr} {fd : Nat → FuncData} {tk : Nat → Tok}
/-! ### the law -/
def spLaw (K : PySem.W.Frag) : Sp := fun vs H Q _ => ∃ (a : Addr) (ns : List Int), vs = [.ref a] ∧ SqL K H a (ns.map V.int) ∧ ns.length ≤ 63 ∧ (∀ z ∈ ns, Builtin.Int.intBits z ≤ 1048576) ∧ ∀ H', Q (.bl true) H'
theorem same_made {H : Hp} {x dx : Addr} {o : HO} (nx : H x = none) (nd : H dx = none) : Same H (upd (upd H dx (.own x)) x o) := fun b u e => by
  rw [upd_ne (ne_of_none e nx), upd_ne (ne_of_none e nd)]
  exact e
/-- a list of few rows -/
def RowsOk (H : Hp) (v : V) : Prop := ∃ (l : Addr) (ns : List Int), v = .ref l ∧ H l = some (.lst (ns.map V.int)) ∧ 1 ≤ ns.length ∧ ns.length ≤ 9
theorem RowsOk.same {H H' : Hp} {v : V} (s : Same H H') (h : RowsOk H v) : RowsOk H' v := by
  obtain ⟨l, ns, e, hl, r⟩ := h
  exact ⟨l, ns, e, s _ _ hl, r⟩
theorem RowsOk.mk {H : Hp} {l : Addr} {xs : List V} {ns : List Int} (hl : H l = some (.lst xs)) (e : xs = ns.map V.int) (h1 : 1 ≤ ns.length) (h2 : ns.length ≤ 9) : RowsOk H (.ref l) := ⟨l, ns, rfl, by rw [hl, e], h1, h2⟩
theorem deq {b c : Bool} {p : Prop} (h1 : b = true ↔ p) (h2 : c = true ↔ p) : decide (b = c) = true := by
  rw [decide_eq_true_iff, Bool.eq_iff_iff, h1, h2]
theorem sow_no {ns : List Int} (h : ns.length ≤ 9) : ¬ Sow ns 0 (10 ^ 20) 1 := fun z => by
  have h1 := z.2.2.2.1
  omega
theorem ok_law (T : Txt K mg fa fd tk) : FnOk P w K mg base CX0 4 (fa 10) (fd 10) ["_law_script"] (spLaw K) := by
  refine T.F_law.ok sc_law (fun vs H Q E h => ?_) (fun cdv A outer s H vs Q E hr h => ?_)
  · obtain ⟨a, ns, rfl, _⟩ := h
    rfl
  · obtain ⟨a, ns, rfl, hS, hlen, hbits, q⟩ := h
    have hsm : Small ns := ⟨hlen, hbits⟩
    have hu := hr.units
    refine ⟨_, (C8.pss_cut (ps_set (i := 1) sc_law.nd rfl (.inl rfl) (pe_callB call_abs (by rfl) T.m_abs (by decide +kernel) (pa_cons (pe_callB (cr_sum rfl) (by rfl) T.m_sum (by decide +kernel) (pa_cons (pe_slice sl_list (pv 0) po_none (po_some pe_int)) pa_nil)) pa_nil)))
      (pss_cons (ps_for PassesOwn.never rfl (pi_list (pe_lst (pa_cons pe_int (pa_cons pe_int pa_nil)))) (pg_name (i := 2) sc_law.nd rfl (.inl rfl)) (pss_cons (ps_set (i := 3) sc_law.nd rfl (.inl rfl) (pe_call (ok__law_order T) (hr.mono (by decide)) (by rfl) T.g__law_order T.F__law_order.kp T.b__law_order .nil pass0 (pa_cons (pv 0) (pa_cons (pv 2) (pa_cons (pe_op op_add pe_int (pe_op op_mod (pv 1) pe_int)) pa_nil)))))
      (pss_one (ps_for PassesOwn.never rfl (pi_list (pe_lst (pa_cons (pv 3) (pa_cons (pe_listRg rfl (by rfl) T.m_list (prg_1 (by rfl) T.m_range (pe_op op_add pe_int (pe_op op_mod (pv 1) pe_int)))) (pa_cons (pe_lst (pa_cons pe_int (pa_cons pe_int (pa_cons pe_int (pa_cons pe_int pa_nil))))) pa_nil))))) (pg_name (i := 4) sc_law.nd rfl (.inl rfl)) (pss_cons (ps_if (pt_not (pt_val (pe_call (ok__law_says T) (hr.mono (by decide)) (by rfl) T.g__law_says T.F__law_says.kp T.b__law_says .nil pass0 (pa_cons (pe_meth (pe_makeP T.mk_Apart (by rfl) T.g_Apart) T.in_Apart.cl T.me_Apart_shows (ok_Apart_shows T) (hr.mono (by decide)) T.b_Apart_shows .nil pass0 (pa_cons (pv 4) pa_nil) (ht := mcall_of (abase_call (by decide)) (fun _ => rfl))) (pa_cons (pe_call (ok__law_apart T) (hr.mono (by decide)) (by rfl) T.g__law_apart T.F__law_apart.kp T.b__law_apart .nil pass0 (pa_cons (pv 4) pa_nil)) pa_nil))))) (pss_one (ps_ret pe_bl)) pss_nil)
      (pss_cons (ps_set (i := 5) sc_law.nd rfl (.inl rfl) (pe_callB call_len_seq (by rfl) T.m_len (by decide +kernel) (pa_cons (pv 4) pa_nil)))
      (pss_cons (ps_for PassesOwn.never rfl (pi_range2 (by rfl) T.m_range (pa_cons (pe_un un_neg pe_int) (pa_cons (pe_op op_add (pe_callB (call_min2 rfl) (by rfl) T.m_min (by decide +kernel) (pa_cons (pv 5) (pa_cons pe_int pa_nil))) pe_int) pa_nil))) (pg_name (i := 6) sc_law.nd rfl (.inl rfl)) (pss_one (ps_for PassesOwn.never rfl (pi_list (pe_lst (pa_cons (pv 6) (pa_cons (pe_op op_add (pv 6) pe_int) (pa_cons (pe_op op_add (pv 6) pe_int) (pa_cons (pe_op op_sub (pv 5) pe_int) pa_nil)))))) (pg_name (i := 7) sc_law.nd rfl (.inl rfl)) (pss_one (ps_for PassesOwn.never rfl (pi_list (pe_lst (pa_cons pe_int (pa_cons pe_int (pa_cons pe_int (pa_cons (pe_un un_neg pe_int) (pa_cons (pe_op op_sub (pv 5) (pv 7)) (pa_cons (pv 5) pa_nil)))))))) (pg_name (i := 8) sc_law.nd rfl (.inl rfl)) (pss_cons (ps_set (i := 9) sc_law.nd rfl (.inl rfl) (pe_make T.mk_Same (ok_Same_init T) (hr.mono (by decide)) (by rfl) T.g_Same T.b_Same_init .nil pass0 (pa_cons (pv 6) (pa_cons (pv 7) (pa_cons (pv 8) pa_nil)))))
      (pss_cons (ps_if (pt_cmpR (op_neL hu) (pe_lst (pa_cons (pe_fld (pv 9) rfl) (pa_cons (pe_fld (pv 9) rfl) (pa_cons (pe_fld (pv 9) rfl) pa_nil)))) (pe_lst (pa_cons (pv 6) (pa_cons (pv 7) (pa_cons (pv 8) pa_nil)))) (nomark _)) (pss_one (ps_ret pe_bl)) pss_nil)
      (pss_one (ps_if (pt_not (pt_val (pe_call (ok__law_says T) (hr.mono (by decide)) (by rfl) T.g__law_says T.F__law_says.kp T.b__law_says .nil pass0 (pa_cons (pe_meth (pv 9) T.in_Same.cl T.me_Same_shows (ok_Same_shows T) (hr.mono (by decide)) T.b_Same_shows .nil pass0 (pa_cons (pv 4) pa_nil)) (pa_cons (pe_call (ok__law_shown T) (hr.mono (by decide)) (by rfl) T.g__law_shown T.F__law_shown.kp T.b__law_shown .nil pass0 (pa_cons (pv 4) (pa_cons (pv 9) pa_nil))) pa_nil))))) (pss_one (ps_ret pe_bl)) pss_nil)))))))))
      (pss_one (ps_if (pt_not (pt_val (pe_call (ok__law_says T) (hr.mono (by decide)) (by rfl) T.g__law_says T.F__law_says.kp T.b__law_says .nil pass0 (pa_cons (pe_meth (pe_make T.mk_Same (ok_Same_init T) (hr.mono (by decide)) (by rfl) T.g_Same T.b_Same_init .nil pass0 (pa_cons pe_int (pa_cons (pe_op op_pow pe_int pe_int) (pa_cons pe_int pa_nil)))) T.in_Same.cl T.me_Same_shows (ok_Same_shows T) (hr.mono (by decide)) T.b_Same_shows .nil pass0 (pa_cons (pv 4) pa_nil)) (pa_cons pe_bl pa_nil))))) (pss_one (ps_ret pe_bl)) pss_nil)))))))))
      (pss_one (ps_ret (pe_and (pe_cmpR op_isBl (pe_meth (pe_make T.mk_Same (ok_Same_init T) (hr.mono (by decide)) (by rfl) T.g_Same T.b_Same_init .nil pass0 (pa_cons pe_int (pa_cons pe_int (pa_cons pe_int pa_nil)))) T.in_Same.cl T.me_Same_shows (ok_Same_shows T) (hr.mono (by decide)) T.b_Same_shows .nil pass0 (pa_cons (pe_lst (pa_cons pe_int (pa_cons pe_int (pa_cons pe_int pa_nil)))) pa_nil)) pe_bl (nomark _)) (pe_one (pe_cmpR op_isBl (pe_meth (pe_make T.mk_Same (ok_Same_init T) (hr.mono (by decide)) (by rfl) T.g_Same T.b_Same_init .nil pass0 (pa_cons pe_int (pa_cons pe_int (pa_cons pe_int pa_nil)))) T.in_Same.cl T.me_Same_shows (ok_Same_shows T) (hr.mono (by decide)) T.b_Same_shows .nil pass0 (pa_cons (pe_lst (pa_cons pe_int (pa_cons pe_int (pa_cons pe_int pa_nil)))) pa_nil)) pe_bl (nomark _)))))))), ?_⟩
    refine ⟨fun σ' H' => Same H H' ∧ ∃ N : Int, 0 ≤ N ∧ σ' = [some (.ref a), some (.int N), none, none, none, none, none, none, none, none], ?_, fun σ' H1 hM => ?_⟩
    · refine ⟨_, rfl, 63, rfl, a, _, rfl, hS, fun sl nsl => ?_⟩
      refine ⟨sl, ns, rfl, .of ?_, _, rfl, same_upd nsl, _, ?_, rfl⟩
      · rw [upd_same, show (63 : Int) = ((63 : Nat) : Int) from rfl, cutV_to, List.take_of_length_le hlen]
      · split <;> omega
    obtain ⟨s1, N, hN, rfl⟩ := hM
    refine ⟨by show 2 ≤ sizeLine; decide, fun l0 nl0 => ?_⟩
    refine ⟨l0, rfl, ⟨_, .of upd_same⟩, ?_⟩
    refine for_it (walk_list (xs := nats [0, 3])) (fun i σ H' => Same H H' ∧ H' l0 = some (.lst (nats [0, 3])) ∧ ∃ y2 y3 y4 y5 y6 y7 y8 y9, σ = [some (.ref a), some (.int N), y2, y3, y4, y5, y6, y7, y8, y9]) ⟨s1.trans (same_upd nl0), upd_same, none, none, none, none, none, none, none, none, rfl⟩ (fun i σ H' _ hP => .of hP.2.1) (fun i x σ H2 H3 hi hP hY => ?_) (fun σ H2 hP => ?_)
    · obtain ⟨sm, hl0, y2, y3, y4, y5, y6, y7, y8, y9, rfl⟩ := hP
      obtain ⟨rfl, hx⟩ := hY
      obtain ⟨k, hk, rfl⟩ := nats_at hx
      have hk4 : k ≤ 3 := by
        simp only [List.mem_cons, List.not_mem_nil, or_false] at hk
        omega
      have n0 := Int.emod_nonneg N (show (9 : Int) ≠ 0 by decide)
      have n1 := Int.emod_lt_of_pos N (show (0 : Int) < 9 by decide)
      have m0 := Int.emod_nonneg N (show (7 : Int) ≠ 0 by decide)
      have m1 := Int.emod_lt_of_pos N (show (0 : Int) < 7 by decide)
      -- dots in a turn
      refine ⟨_, rfl, _, rfl, _, rfl, _, _, rfl, rfl, (show (0 : Int) < 9 by decide), _, _, rfl, rfl, a, ns, k, (1 + N % 9).toNat, ?_, sm.seq hS, hsm, by omega, by omega, fun H4 dl os hp s4 ndl hdl => ?_⟩
      · show [V.ref a, V.int (k : Int), V.int (1 + N % 9)] = _
        rw [Int.toNat_of_nonneg (by omega)]
      have hol := hp.length_eq
      rw [List.length_range] at hol
      -- the three
      refine ⟨_, rfl, _, rfl, _, _, rfl, rfl, (show (0 : Int) < 7 by decide), _, _, rfl, rfl, _, rfl, RgOk.of_le (by omega) (by omega) (by omega) (by omega), fun l1 nl1 => ?_⟩
      refine ⟨by show 4 ≤ sizeLine; decide, fun l2 nl2 => ?_⟩
      refine ⟨by show 3 ≤ sizeLine; decide, fun l3 nl3 => ?_⟩
      have sA := same_upd (o := .lst (rgV 0 (1 + N % 7))) nl1
      have sB := same_upd (o := .lst [V.int 2, V.int 0, V.int 1, V.int 3]) nl2
      have sC := same_upd (o := .lst [V.ref dl, V.ref l1, V.ref l2]) nl3
      have k1 := RowsOk.mk (((sA.trans sB).trans sC) _ _ hdl) (nats_ints os) (by rw [List.length_map]; omega) (by rw [List.length_map]; omega)
      have e1 : rgV 0 (1 + N % 7) = ((List.range (1 + N % 7).toNat).map fun n : Nat => (n : Int)).map V.int := by
        rw [← nats_ints, ← rgV_nats, Int.toNat_of_nonneg (by omega)]
      have k2 := RowsOk.mk ((sB.trans sC) _ _ upd_same) e1 (by rw [List.length_map, List.length_range]; omega) (by rw [List.length_map, List.length_range]; omega)
      have k3 : RowsOk _ (V.ref l2) := ⟨l2, [2, 0, 1, 3], rfl, sC _ _ upd_same, by decide, by decide⟩
      have sD := ((sA.trans sB).trans sC)
      have sm7 := (sm.trans s4).trans sD
      have hl07 := (s4.trans sD) _ _ hl0
      refine ⟨l3, rfl, ⟨_, .of upd_same⟩, ?_⟩
      generalize hH7 : upd (upd (upd H4 l1 (.lst (rgV 0 (1 + N % 7)))) l2 (.lst [V.int 2, V.int 0, V.int 1, V.int 3])) l3 (.lst [V.ref dl, V.ref l1, V.ref l2]) = H7 at *
      have hl37 : H7 l3 = some (.lst [V.ref dl, V.ref l1, V.ref l2]) := by rw [← hH7]; exact upd_same
      refine for_it (walk_list (xs := [V.ref dl, V.ref l1, V.ref l2])) (fun i σ H' => Same H7 H' ∧ ∃ y4 y5 y6 y7 y8 y9, σ = [some (.ref a), some (.int N), some (.int (k : Int)), some (.ref dl), y4, y5, y6, y7, y8, y9]) ⟨Same.refl _, y4, y5, y6, y7, y8, y9, rfl⟩ (fun i σ H' _ hP => .of (hP.1 _ _ hl37)) (fun i x σ H8 H9 hi hP hY => ?_) (fun σ H8 hP => ?_)
      · obtain ⟨s8, w4, w5, w6, w7, w8, w9, rfl⟩ := hP
        obtain ⟨rfl, hx⟩ := hY
        have hrk : RowsOk H7 x := by
          have hm := List.mem_of_getElem? hx
          simp only [List.mem_cons, List.not_mem_nil, or_false] at hm
          rcases hm with rfl | rfl | rfl
          · exact k1
          · exact k2
          · exact k3
        obtain ⟨rl, rs, rfl, hrl, hr1, hr9⟩ := hrk.same s8
        have htri : (arrows rs).length < 64 := by rw [arrows_len]; exact tri9 _ hr9
        have hrn : ((rs.map V.int).length : Int) = (rs.length : Int) := by rw [List.length_map]
        -- Apart().shows(rows), _law_apart(rows)
        refine fun ax adx nax nadx nead => ?_
        have sE := same_made (o := .ins (fa 12) adx []) nax nadx
        refine ⟨ax, adx, [], rfl, upd_same, rfl, _, rfl, ax, rl, rs, rfl, .of (sE _ _ hrl), by omega, fun b1 H10 hb1 s10 => ?_⟩
        refine ⟨_, rfl, rl, rs, rfl, .of ((sE.trans s10) _ _ hrl), by omega, htri, fun b2 H11 hb2 s11 => ?_⟩
        refine ⟨b1, b2, rfl, _, rfl, ?_⟩
        rw [deq hb1 hb2]
        refine iteF ?_
        have sF := (sE.trans s10).trans s11
        have hrl11 := sF _ _ hrl
        refine ⟨_, rfl, rl, _, rfl, .inl (.of hrl11), ?_⟩
        -- the fields
        refine ⟨_, rfl, _, rfl, _, _, rfl, _, _, rfl, rfl, -1, _, rfl, ⟨by decide, by decide, ?_, ?_⟩, ?_⟩
        · split <;> omega
        · split <;> omega
        refine for_it walk_range (fun i σ H' => Same H11 H' ∧ ∃ y6 y7 y8 y9, σ = [some (.ref a), some (.int N), some (.int (k : Int)), some (.ref dl), some (.ref rl), some (.int ((rs.map V.int).length : Int)), y6, y7, y8, y9]) ⟨Same.refl _, w6, w7, w8, w9, rfl⟩ (fun _ _ _ _ _ => True.intro) (fun i x σ H12 H13 hi hP hY => ?_) (fun σ H12 hP => ?_)
        · obtain ⟨s12, v6, v7, v8, v9, rfl⟩ := hP
          obtain ⟨rfl, rfl⟩ := hY
          generalize hf : (-1 : Int) + (i : Int) = f
          refine ⟨_, rfl, _, rfl, _, _, rfl, rfl, _, rfl, _, _, rfl, rfl, _, rfl, _, _, rfl, rfl, by show 4 ≤ sizeLine; decide, fun l4 nl4 => ?_⟩
          refine ⟨l4, rfl, ⟨_, .of upd_same⟩, ?_⟩
          refine for_it (walk_list (xs := [f, f + 1, f + 2, ((rs.map V.int).length : Int) - 1].map V.int)) (fun i σ H' => Same H13 H' ∧ H' l4 = some (.lst ([f, f + 1, f + 2, ((rs.map V.int).length : Int) - 1].map V.int)) ∧ ∃ y7 y8 y9, σ = [some (.ref a), some (.int N), some (.int (k : Int)), some (.ref dl), some (.ref rl), some (.int ((rs.map V.int).length : Int)), some (.int f), y7, y8, y9]) ⟨same_upd nl4, by rw [← hf]; exact upd_same, v7, v8, v9, by rw [← hf]; rfl⟩ (fun i σ H' _ hP => .of hP.2.1) (fun i x σ H14 H15 hi hP hY => ?_) (fun σ H14 hP => ?_)
          · obtain ⟨s14, hl4, u7, u8, u9, rfl⟩ := hP
            obtain ⟨rfl, hx⟩ := hY
            obtain ⟨sec, hsec, rfl⟩ := List.mem_map.mp (List.mem_of_getElem? hx)
            refine ⟨1, rfl, _, rfl, _, rfl, _, _, rfl, rfl, _, rfl, by show 6 ≤ sizeLine; decide, fun l5 nl5 => ?_⟩
            refine ⟨l5, rfl, ⟨_, .of upd_same⟩, ?_⟩
            have s5 := same_upd (o := .lst ([0, 1, 2, -1, ((rs.map V.int).length : Int) - sec, ((rs.map V.int).length : Int)].map V.int)) nl5
            refine for_it (walk_list (xs := [0, 1, 2, -1, ((rs.map V.int).length : Int) - sec, ((rs.map V.int).length : Int)].map V.int)) (fun i σ H' => Same H15 H' ∧ H' l5 = some (.lst ([0, 1, 2, -1, ((rs.map V.int).length : Int) - sec, ((rs.map V.int).length : Int)].map V.int)) ∧ ∃ y8 y9, σ = [some (.ref a), some (.int N), some (.int (k : Int)), some (.ref dl), some (.ref rl), some (.int ((rs.map V.int).length : Int)), some (.int f), some (.int sec), y8, y9]) ⟨s5, upd_same, u8, u9, rfl⟩ (fun i σ H' _ hP => .of hP.2.1) (fun i x σ H16 H17 hi hP hY => ?_) (fun σ H16 hP => ?_)
            · obtain ⟨s16, hl5, t8, t9, rfl⟩ := hP
              obtain ⟨rfl, hx⟩ := hY
              obtain ⟨ac, hac, rfl⟩ := List.mem_map.mp (List.mem_of_getElem? hx)
              -- the answer by hand
              refine ⟨_, rfl, _, rfl, _, rfl, fun bx bdx nbx nbdx nebd => ⟨bx, bdx, f, sec, ac, rfl, upd_same, rfl, ?_⟩⟩
              rw [upd_upd]
              have sG := same_made (o := .ins (fa 13) bdx [("first", .int f), ("second", .int sec), ("across", .int ac)]) nbx nbdx
              generalize hH18 : upd (upd H17 bdx (.own bx)) bx (.ins (fa 13) bdx [("first", .int f), ("second", .int sec), ("across", .int ac)]) = H18 at *
              have hbx : H18 bx = some (.ins (fa 13) bdx [("first", .int f), ("second", .int sec), ("across", .int ac)]) := by rw [← hH18]; exact upd_same
              have cS := T.in_Same.cl
              refine ⟨_, rfl, bx, _, bdx, _, _, rfl, hbx, cS, T.na_Same_first, rfl, _, rfl, bx, _, bdx, _, _, rfl, hbx, cS, T.na_Same_second, rfl, _, rfl, bx, _, bdx, _, _, rfl, hbx, cS, T.na_Same_across, rfl, by show 3 ≤ sizeLine; decide, fun l6 nl6 => ?_⟩
              refine ⟨_, rfl, _, rfl, _, rfl, by show 3 ≤ sizeLine; decide, fun l7 nl7 => ?_⟩
              have sH := same_upd (o := .lst [V.int f, V.int sec, V.int ac]) nl6
              have sI := same_upd (o := .lst [V.int f, V.int sec, V.int ac]) nl7
              refine ⟨l6, l7, [f, sec, ac], [f, sec, ac], rfl, rfl, .of (sI _ _ upd_same), .of upd_same, _, rfl, ?_⟩
              rw [decide_eq_true rfl]
              refine iteF ?_
              have sJ := sH.trans sI
              have hbx2 := sJ _ _ hbx
              have sK := (((s12.trans s14).trans s16).trans sG).trans sJ
              have hrl2 := sK _ _ hrl11
              refine ⟨_, rfl, bx, bdx, _, rfl, hbx2, rfl, _, rfl, bx, rl, rs, f, sec, ac, rfl, ⟨bdx, hbx2⟩, .of hrl2, by omega, fun b3 hb3 => ?_⟩
              refine ⟨_, rfl, _, rfl, bx, rl, rs, rfl, .of hrl2, by omega, htri, .inr ⟨f, sec, ac, ⟨bdx, hbx2⟩, fun b4 H19 hb4 s19 => ?_⟩⟩
              refine ⟨b3, b4, rfl, _, rfl, ?_⟩
              rw [deq hb3 hb4]
              have sL := (sG.trans sJ).trans s19
              exact iteF ⟨s16.trans sL, sL _ _ hl5, _, _, rfl⟩
            · obtain ⟨s16, hl5, t8, t9, rfl⟩ := hP
              exact ⟨s14.trans s16, s16 _ _ hl4, _, _, _, rfl⟩
          · obtain ⟨s14, hl4, u7, u8, u9, rfl⟩ := hP
            exact ⟨s12.trans s14, _, _, _, _, rfl⟩
        · obtain ⟨s12, v6, v7, v8, v9, rfl⟩ := hP
          -- a column far off
          refine ⟨_, _, rfl, rfl, ⟨by decide, by decide, by decide⟩, fun bx bdx nbx nbdx nebd => ⟨bx, bdx, 0, 10 ^ 20, 1, rfl, upd_same, rfl, ?_⟩⟩
          rw [upd_upd]
          have sG := same_made (o := .ins (fa 13) bdx [("first", .int 0), ("second", .int (10 ^ 20)), ("across", .int 1)]) nbx nbdx
          refine ⟨bx, bdx, _, rfl, upd_same, rfl, _, rfl, bx, rl, rs, 0, 10 ^ 20, 1, rfl, ⟨bdx, upd_same⟩, .of ((s12.trans sG) _ _ hrl11), by omega, fun b3 hb3 => ?_⟩
          have e3 : b3 = false := by
            cases b3 with
            | false => rfl
            | true => exact absurd (hb3.mp rfl) (sow_no hr9)
          subst e3
          refine ⟨false, false, rfl, _, rfl, iteF ⟨(s8.trans (sF.trans s12)).trans sG, _, _, _, _, _, _, rfl⟩⟩
      · obtain ⟨s8, w4, w5, w6, w7, w8, w9, rfl⟩ := hP
        exact ⟨sm7.trans s8, s8 _ _ hl07, _, _, _, _, _, _, _, _, rfl⟩
    · obtain ⟨sm, hl0, y2, y3, y4, y5, y6, y7, y8, y9, rfl⟩ := hP
      refine fun bx bdx nbx nbdx nebd => ⟨bx, bdx, 0, 1, 1, rfl, upd_same, rfl, ?_⟩
      rw [upd_upd]
      refine ⟨bx, bdx, _, rfl, upd_same, rfl, by show 3 ≤ sizeLine; decide, fun l8 nl8 => ?_⟩
      refine ⟨bx, l8, [0, 1, 2], 0, 1, 1, rfl, ⟨bdx, same_upd nl8 _ _ upd_same⟩, .of upd_same, by decide, fun b1 hb1 => ?_⟩
      have e1 : b1 = true := hb1.mpr ⟨by decide, by decide, by decide, by decide, by decide⟩
      subst e1
      refine ⟨true, true, rfl, rfl, true, rfl, iteT ?_⟩
      refine fun cx cdx ncx ncdx necd => ⟨cx, cdx, 1, 0, 1, rfl, upd_same, rfl, ?_⟩
      rw [upd_upd]
      refine ⟨cx, cdx, _, rfl, upd_same, rfl, by show 3 ≤ sizeLine; decide, fun l9 nl9 => ?_⟩
      refine ⟨cx, l9, [0, 1, 2], 1, 0, 1, rfl, ⟨cdx, same_upd nl9 _ _ upd_same⟩, .of upd_same, by decide, fun b2 hb2 => ?_⟩
      have e2 : b2 = false := by
        cases b2 with
        | false => rfl
        | true => exact absurd (hb2.mp rfl).2.1 (by decide)
      subst e2
      exact ⟨false, false, rfl, rfl, q _⟩
end
end Lw
namespace Lw
open PySem PySem.Spec PyProof.Rows L2 AD
/-! ### what the top has written; the end -/
theorem all_mk {l : PySem.W.OpenLaw} {w : World} {K : PySem.W.Frag} {h : Heap} {mg : Str → Option Value} {fL f0 f1 f2 f3 f4 f5 f6 f7 f8 f9 f10 f11 f12 f13 : Addr}
    {od0 an0 od1 an1 od2 an2 od3 an3 od4 an4 od5 an5 od6 an6 od7 an7 od8 an8 od9 an9 od10 an10 : Option Addr} {sl0 sl1 sl2 sl3 sl4 sl5 sl6 sl7 sl8 sl9 sl10 : Array (Option Value)} {oc0 kV0 dc0 pm0 cd0 ct0 oc1 kV1 dc1 pm1 cd1 ct1 oc2 kV2 dc2 pm2 cd2 ct2 oc3 kV3 dc3 pm3 cd3 ct3 oc4 kV4 dc4 pm4 cd4 ct4 oc5 kV5 dc5 pm5 cd5 ct5 oc6 kV6 dc6 pm6 cd6 ct6 oc7 kV7 dc7 pm7 cd7 ct7 oc8 kV8 dc8 pm8 cd8 ct8 oc9 kV9 dc9 pm9 cd9 ct9 oc10 kV10 dc10 pm10 cd10 ct10 : Value}
    (X : K.In h) (G : h.Ns mainGlobals mg) (hfa : mg "law" = some (.ref fL))
    (ca11 : PySem.W.nsIn K mainGlobals "Answer" = some (some (.ref f11)))
    (cm11 : PySem.W.makesIn K f11 = true)
    (ck11 : PySem.W.keepIn K (.ref f11) = true)
    (ci11 : PySem.W.findIn K (.ref f11) "__init__" = some (some (.builtin "object.__init__")))
    (cg11 : PySem.W.plainGet K f11 Str.empty = true)
    (ch11 : PySem.W.hasDictIn K f11 = true)
    (cp11 : PySem.W.plainOver K f11 = true)
    (cs11 : PySem.W.findIn K (.ref f11) "__setattr__" = some (some (.builtin "object.__setattr__")))
    (cc11 : PySem.W.findIn K (.ref f11) "__class__" = some (some (.builtin "object.__class__")))
    (cx11 : PySem.W.mroIn K f11 (.type "object") = some true)
    (cl11 : PySem.W.isClsIn K f11 = true)
    (ct11 : PySem.W.typeIn K (.ref f11) = some (.type "type"))
    (cu11_11 : PySem.W.subIn K (.ref f11) (.ref f11) = some true)
    (cu12_11 : PySem.W.subIn K (.ref f11) (.ref f12) = some false)
    (cu13_11 : PySem.W.subIn K (.ref f11) (.ref f13) = some false)
    (ca12 : PySem.W.nsIn K mainGlobals "Apart" = some (some (.ref f12)))
    (cm12 : PySem.W.makesIn K f12 = true)
    (ck12 : PySem.W.keepIn K (.ref f12) = true)
    (ci12 : PySem.W.findIn K (.ref f12) "__init__" = some (some (.builtin "object.__init__")))
    (cg12 : PySem.W.plainGet K f12 Str.empty = true)
    (ch12 : PySem.W.hasDictIn K f12 = true)
    (cp12 : PySem.W.plainOver K f12 = true)
    (cs12 : PySem.W.findIn K (.ref f12) "__setattr__" = some (some (.builtin "object.__setattr__")))
    (cc12 : PySem.W.findIn K (.ref f12) "__class__" = some (some (.builtin "object.__class__")))
    (cx12 : PySem.W.mroIn K f12 (.type "object") = some true)
    (cl12 : PySem.W.isClsIn K f12 = true)
    (ct12 : PySem.W.typeIn K (.ref f12) = some (.type "type"))
    (cu11_12 : PySem.W.subIn K (.ref f12) (.ref f11) = some true)
    (cu12_12 : PySem.W.subIn K (.ref f12) (.ref f12) = some true)
    (cu13_12 : PySem.W.subIn K (.ref f12) (.ref f13) = some false)
    (ca13 : PySem.W.nsIn K mainGlobals "Same" = some (some (.ref f13)))
    (cm13 : PySem.W.makesIn K f13 = true)
    (ck13 : PySem.W.keepIn K (.ref f13) = true)
    (cg13 : PySem.W.plainGet K f13 Str.empty = true)
    (ch13 : PySem.W.hasDictIn K f13 = true)
    (cp13 : PySem.W.plainOver K f13 = true)
    (cs13 : PySem.W.findIn K (.ref f13) "__setattr__" = some (some (.builtin "object.__setattr__")))
    (cc13 : PySem.W.findIn K (.ref f13) "__class__" = some (some (.builtin "object.__class__")))
    (cx13 : PySem.W.mroIn K f13 (.type "object") = some true)
    (cl13 : PySem.W.isClsIn K f13 = true)
    (ct13 : PySem.W.typeIn K (.ref f13) = some (.type "type"))
    (cn_first_13 : PySem.W.findIn K (.ref f13) "first" = some none)
    (cn_second_13 : PySem.W.findIn K (.ref f13) "second" = some none)
    (cn_across_13 : PySem.W.findIn K (.ref f13) "across" = some none)
    (cu11_13 : PySem.W.subIn K (.ref f13) (.ref f11) = some true)
    (cu12_13 : PySem.W.subIn K (.ref f13) (.ref f12) = some false)
    (cu13_13 : PySem.W.subIn K (.ref f13) (.ref f13) = some true)
    (cy : PySem.W.specialIn K (.builtin "object.__class__") "__get__" = some (some (.builtin "getset_descriptor.__get__")))
    (cz : PySem.W.takesIn K (.builtin "object.__class__") = some true)
    (z_abs : PySem.W.nsIn K mainGlobals "abs" = some none)
    (z_bool : PySem.W.nsIn K mainGlobals "bool" = some none)
    (z_isinstance : PySem.W.nsIn K mainGlobals "isinstance" = some none)
    (z_len : PySem.W.nsIn K mainGlobals "len" = some none)
    (z_list : PySem.W.nsIn K mainGlobals "list" = some none)
    (z_min : PySem.W.nsIn K mainGlobals "min" = some none)
    (z_range : PySem.W.nsIn K mainGlobals "range" = some none)
    (z_set : PySem.W.nsIn K mainGlobals "set" = some none)
    (z_sum : PySem.W.nsIn K mainGlobals "sum" = some none)
    (a0 : PySem.W.nsIn K mainGlobals "first_same" = some (some (.ref f0)))
    (l0 : K.lookup f0 = some ⟨oc0, od0, .func (PySem.W.fnOf "first_same" "first_same" (defArgs s_first_same) (defBody s_first_same) (defScope s_first_same) .none kV0 dc0 pm0 an0 cd0 ct0), sl0⟩)
    (c0 : PySem.W.codeIn K cd0 "first_same" = true)
    (k0 : PySem.W.keepIn K (.ref f0) = true)
    (a1 : PySem.W.findIn K (.ref f12) "shows" = some (some (.ref f1)))
    (i1 : PySem.W.isFn K (.ref f1) = true)
    (l1 : K.lookup f1 = some ⟨oc1, od1, .func (PySem.W.fnOf "shows" "Apart.shows" (defArgs s_Apart_shows) (defBody s_Apart_shows) (defScope s_Apart_shows) .none kV1 dc1 pm1 an1 cd1 ct1), sl1⟩)
    (c1 : PySem.W.codeIn K cd1 "Apart.shows" = true)
    (k1 : PySem.W.keepIn K (.ref f1) = true)
    (a2 : PySem.W.findIn K (.ref f13) "__init__" = some (some (.ref f2)))
    (i2 : PySem.W.isFn K (.ref f2) = true)
    (l2 : K.lookup f2 = some ⟨oc2, od2, .func (PySem.W.fnOf "__init__" "Same.__init__" (defArgs s_Same_init) (defBody s_Same_init) (defScope s_Same_init) .none kV2 dc2 pm2 an2 cd2 ct2), sl2⟩)
    (c2 : PySem.W.codeIn K cd2 "Same.__init__" = true)
    (k2 : PySem.W.keepIn K (.ref f2) = true)
    (a3 : PySem.W.findIn K (.ref f13) "shows" = some (some (.ref f3)))
    (i3 : PySem.W.isFn K (.ref f3) = true)
    (l3 : K.lookup f3 = some ⟨oc3, od3, .func (PySem.W.fnOf "shows" "Same.shows" (defArgs s_Same_shows) (defBody s_Same_shows) (defScope s_Same_shows) .none kV3 dc3 pm3 an3 cd3 ct3), sl3⟩)
    (c3 : PySem.W.codeIn K cd3 "Same.shows" = true)
    (k3 : PySem.W.keepIn K (.ref f3) = true)
    (a4 : PySem.W.nsIn K mainGlobals "_law_number" = some (some (.ref f4)))
    (l4 : K.lookup f4 = some ⟨oc4, od4, .func (PySem.W.fnOf "_law_number" "_law_number" (defArgs s__law_number) (defBody s__law_number) (defScope s__law_number) .none kV4 dc4 pm4 an4 cd4 ct4), sl4⟩)
    (c4 : PySem.W.codeIn K cd4 "_law_number" = true)
    (k4 : PySem.W.keepIn K (.ref f4) = true)
    (a5 : PySem.W.nsIn K mainGlobals "_law_arrows" = some (some (.ref f5)))
    (l5 : K.lookup f5 = some ⟨oc5, od5, .func (PySem.W.fnOf "_law_arrows" "_law_arrows" (defArgs s__law_arrows) (defBody s__law_arrows) (defScope s__law_arrows) .none kV5 dc5 pm5 an5 cd5 ct5), sl5⟩)
    (c5 : PySem.W.codeIn K cd5 "_law_arrows" = true)
    (k5 : PySem.W.keepIn K (.ref f5) = true)
    (a6 : PySem.W.nsIn K mainGlobals "_law_apart" = some (some (.ref f6)))
    (l6 : K.lookup f6 = some ⟨oc6, od6, .func (PySem.W.fnOf "_law_apart" "_law_apart" (defArgs s__law_apart) (defBody s__law_apart) (defScope s__law_apart) .none kV6 dc6 pm6 an6 cd6 ct6), sl6⟩)
    (c6 : PySem.W.codeIn K cd6 "_law_apart" = true)
    (k6 : PySem.W.keepIn K (.ref f6) = true)
    (a7 : PySem.W.nsIn K mainGlobals "_law_shown" = some (some (.ref f7)))
    (l7 : K.lookup f7 = some ⟨oc7, od7, .func (PySem.W.fnOf "_law_shown" "_law_shown" (defArgs s__law_shown) (defBody s__law_shown) (defScope s__law_shown) .none kV7 dc7 pm7 an7 cd7 ct7), sl7⟩)
    (c7 : PySem.W.codeIn K cd7 "_law_shown" = true)
    (k7 : PySem.W.keepIn K (.ref f7) = true)
    (a8 : PySem.W.nsIn K mainGlobals "_law_order" = some (some (.ref f8)))
    (l8 : K.lookup f8 = some ⟨oc8, od8, .func (PySem.W.fnOf "_law_order" "_law_order" (defArgs s__law_order) (defBody s__law_order) (defScope s__law_order) .none kV8 dc8 pm8 an8 cd8 ct8), sl8⟩)
    (c8 : PySem.W.codeIn K cd8 "_law_order" = true)
    (k8 : PySem.W.keepIn K (.ref f8) = true)
    (a9 : PySem.W.nsIn K mainGlobals "_law_says" = some (some (.ref f9)))
    (l9 : K.lookup f9 = some ⟨oc9, od9, .func (PySem.W.fnOf "_law_says" "_law_says" (defArgs s__law_says) (defBody s__law_says) (defScope s__law_says) .none kV9 dc9 pm9 an9 cd9 ct9), sl9⟩)
    (c9 : PySem.W.codeIn K cd9 "_law_says" = true)
    (k9 : PySem.W.keepIn K (.ref f9) = true)
    (a10 : PySem.W.nsIn K mainGlobals "law" = some (some (.ref f10)))
    (l10 : K.lookup f10 = some ⟨oc10, od10, .func (PySem.W.fnOf "law" "law" (defArgs s_law) (defBody s_law) (defScope s_law) .none kV10 dc10 pm10 an10 cd10 ct10), sl10⟩)
    (c10 : PySem.W.codeIn K cd10 "law" = true)
    (k10 : PySem.W.keepIn K (.ref f10) = true)
    : ∃ fd : FuncData, (∀ (s : Shared) (v : Value), BindsTo s fd ⟨[v], []⟩ [("_law_script", v)]) ∧ ∀ base : Heap, K.In base → base.Ns mainGlobals mg → FnOk l.prog w K mg base CX0 4 fL fd ["_law_script"] (spLaw K) := by
  have e := hfa.symm.trans (PySem.W.mg_of X G a10)
  cases e
  have F0 := fun_mk (st := s_first_same) l0 c0 k0
  have b0 := F0.binds (ps := ["dots"]) fun _ _ _ _ _ _ us hl => match us, hl with | [_], _ => rfl
  have F1 := fun_mk (st := s_Apart_shows) l1 c1 k1
  have b1 := F1.binds (ps := ["self", "dots"]) fun _ _ _ _ _ _ us hl => match us, hl with | [_, _], _ => rfl
  have F2 := fun_mk (st := s_Same_init) l2 c2 k2
  have b2 := F2.binds (ps := ["self", "first", "second", "across"]) fun _ _ _ _ _ _ us hl => match us, hl with | [_, _, _, _], _ => rfl
  have F3 := fun_mk (st := s_Same_shows) l3 c3 k3
  have b3 := F3.binds (ps := ["self", "dots"]) fun _ _ _ _ _ _ us hl => match us, hl with | [_, _], _ => rfl
  have F4 := fun_mk (st := s__law_number) l4 c4 k4
  have b4 := F4.binds (ps := ["_law_cell", "_law_at", "_law_whole"]) fun _ _ _ _ _ _ us hl => match us, hl with | [_, _, _], _ => rfl
  have F5 := fun_mk (st := s__law_arrows) l5 c5 k5
  have b5 := F5.binds (ps := ["_law_dots"]) fun _ _ _ _ _ _ us hl => match us, hl with | [_], _ => rfl
  have F6 := fun_mk (st := s__law_apart) l6 c6 k6
  have b6 := F6.binds (ps := ["_law_dots"]) fun _ _ _ _ _ _ us hl => match us, hl with | [_], _ => rfl
  have F7 := fun_mk (st := s__law_shown) l7 c7 k7
  have b7 := F7.binds (ps := ["_law_dots", "_law_found"]) fun _ _ _ _ _ _ us hl => match us, hl with | [_, _], _ => rfl
  have F8 := fun_mk (st := s__law_order) l8 c8 k8
  have b8 := F8.binds (ps := ["_law_script", "_law_by", "_law_many"]) fun _ _ _ _ _ _ us hl => match us, hl with | [_, _, _], _ => rfl
  have F9 := fun_mk (st := s__law_says) l9 c9 k9
  have b9 := F9.binds (ps := ["_law_said", "_law_due"]) fun _ _ _ _ _ _ us hl => match us, hl with | [_, _], _ => rfl
  have F10 := fun_mk (st := s_law) l10 c10 k10
  have b10 := F10.binds (ps := ["_law_script"]) fun _ _ _ _ _ _ us hl => match us, hl with | [_], _ => rfl
  have T : Txt K mg (fun i => [f0, f1, f2, f3, f4, f5, f6, f7, f8, f9, fL, f11, f12, f13].getD i 0) (fun i => [PySem.W.fnOf "first_same" "first_same" (defArgs s_first_same) (defBody s_first_same) (defScope s_first_same) .none kV0 dc0 pm0 an0 cd0 ct0,
      PySem.W.fnOf "shows" "Apart.shows" (defArgs s_Apart_shows) (defBody s_Apart_shows) (defScope s_Apart_shows) .none kV1 dc1 pm1 an1 cd1 ct1,
      PySem.W.fnOf "__init__" "Same.__init__" (defArgs s_Same_init) (defBody s_Same_init) (defScope s_Same_init) .none kV2 dc2 pm2 an2 cd2 ct2,
      PySem.W.fnOf "shows" "Same.shows" (defArgs s_Same_shows) (defBody s_Same_shows) (defScope s_Same_shows) .none kV3 dc3 pm3 an3 cd3 ct3,
      PySem.W.fnOf "_law_number" "_law_number" (defArgs s__law_number) (defBody s__law_number) (defScope s__law_number) .none kV4 dc4 pm4 an4 cd4 ct4,
      PySem.W.fnOf "_law_arrows" "_law_arrows" (defArgs s__law_arrows) (defBody s__law_arrows) (defScope s__law_arrows) .none kV5 dc5 pm5 an5 cd5 ct5,
      PySem.W.fnOf "_law_apart" "_law_apart" (defArgs s__law_apart) (defBody s__law_apart) (defScope s__law_apart) .none kV6 dc6 pm6 an6 cd6 ct6,
      PySem.W.fnOf "_law_shown" "_law_shown" (defArgs s__law_shown) (defBody s__law_shown) (defScope s__law_shown) .none kV7 dc7 pm7 an7 cd7 ct7,
      PySem.W.fnOf "_law_order" "_law_order" (defArgs s__law_order) (defBody s__law_order) (defScope s__law_order) .none kV8 dc8 pm8 an8 cd8 ct8,
      PySem.W.fnOf "_law_says" "_law_says" (defArgs s__law_says) (defBody s__law_says) (defScope s__law_says) .none kV9 dc9 pm9 an9 cd9 ct9,
      PySem.W.fnOf "law" "law" (defArgs s_law) (defBody s_law) (defScope s_law) .none kV10 dc10 pm10 an10 cd10 ct10].getD i (PySem.W.fnOf "first_same" "first_same" (defArgs s_first_same) (defBody s_first_same) (defScope s_first_same) .none kV0 dc0 pm0 an0 cd0 ct0)) (fun i => [].getD i default) := {
    m_abs := PySem.W.mg_none_of X G z_abs
    m_bool := PySem.W.mg_none_of X G z_bool
    m_isinstance := PySem.W.mg_none_of X G z_isinstance
    m_len := PySem.W.mg_none_of X G z_len
    m_list := PySem.W.mg_none_of X G z_list
    m_min := PySem.W.mg_none_of X G z_min
    m_range := PySem.W.mg_none_of X G z_range
    m_set := PySem.W.mg_none_of X G z_set
    m_sum := PySem.W.mg_none_of X G z_sum
    g_Answer := PySem.W.mg_of X G ca11
    mk_Answer := ⟨cm11, ci11, ck11⟩
    in_Answer := ⟨⟨cg11, ch11, cp11, cs11⟩, cc11, cy, cz, cx11⟩
    ki_Answer_Answer := kit_own cl11 ct11 cu11_11 cu11_11
    ki_Answer_Apart := kit_own cl12 ct12 cu12_11 cu12_12
    ki_Answer_Same := kit_own cl13 ct13 cu13_11 cu13_13
    g_Apart := PySem.W.mg_of X G ca12
    mk_Apart := ⟨cm12, ci12, ck12⟩
    in_Apart := ⟨⟨cg12, ch12, cp12, cs12⟩, cc12, cy, cz, cx12⟩
    me_Apart_shows := ⟨a1, i1, k1⟩
    ki_Apart_Answer := kit_own cl11 ct11 cu11_12 cu11_11
    ki_Apart_Apart := kit_own cl12 ct12 cu12_12 cu12_12
    ki_Apart_Same := kit_own cl13 ct13 cu13_12 cu13_13
    g_Same := PySem.W.mg_of X G ca13
    mk_Same := ⟨cm13, a2, i2, ck13⟩
    in_Same := ⟨⟨cg13, ch13, cp13, cs13⟩, cc13, cy, cz, cx13⟩
    me_Same_shows := ⟨a3, i3, k3⟩
    na_Same_first := cn_first_13
    na_Same_second := cn_second_13
    na_Same_across := cn_across_13
    ki_Same_Answer := kit_own cl11 ct11 cu11_13 cu11_11
    ki_Same_Apart := kit_own cl12 ct12 cu12_13 cu12_12
    ki_Same_Same := kit_own cl13 ct13 cu13_13 cu13_13
    g_first_same := PySem.W.mg_of X G a0, F_first_same := F0, b_first_same := b0
    F_Apart_shows := F1, b_Apart_shows := b1
    F_Same_init := F2, b_Same_init := b2
    F_Same_shows := F3, b_Same_shows := b3
    g__law_number := PySem.W.mg_of X G a4, F__law_number := F4, b__law_number := b4
    g__law_arrows := PySem.W.mg_of X G a5, F__law_arrows := F5, b__law_arrows := b5
    g__law_apart := PySem.W.mg_of X G a6, F__law_apart := F6, b__law_apart := b6
    g__law_shown := PySem.W.mg_of X G a7, F__law_shown := F7, b__law_shown := b7
    g__law_order := PySem.W.mg_of X G a8, F__law_order := F8, b__law_order := b8
    g__law_says := PySem.W.mg_of X G a9, F__law_says := F9, b__law_says := b9
    g_law := PySem.W.mg_of X G a10, F_law := F10, b_law := b10
  }
  exact ⟨PySem.W.fnOf "law" "law" (defArgs s_law) (defBody s_law) (defScope s_law) .none kV10 dc10 pm10 an10 cd10 ct10, fun s v => .of_eq rfl, fun base _ _ => ok_law T⟩
end Lw
open PySem PySem.W PyProof.Rows
set_option maxHeartbeats 0 in
theorem PySem.Challenge.cw_arrowdots_k07_by_hand_holds : PySem.Challenge.rw_arrowdots_k07_by_hand.Holds := by
  w_on; o_law; k_head; (case hw => w_witness2)
  k_fill
  refine L2.walk_ofB (l := PySem.Challenge.rw_arrowdots_k07_by_hand) (n := 63) (k := 4) (x := "_law_script") (CX := fun _ => L2.CX0) (sp := fun w => Lw.spLaw _) rfl (by decide) rfl ⟨rfl, by decide, by decide⟩ (fun w h Y => PySem.W.kIn_of Y) ?F (fun _ _ a ns hl hb _ hS => ⟨a, ns, rfl, hS, hl, hb, fun _ => rfl⟩) (fun _ _ _ _ _ h => h)
  case F =>
    intro w mg fa h KX G hmg
    refine' Lw.all_mk KX G hmg ?ca11 ?cm11 ?ck11 ?ci11 ?cg11 ?ch11 ?cp11 ?cs11 ?cc11 ?cx11 ?cl11 ?ct11 ?cu11_11 ?cu12_11 ?cu13_11 ?ca12 ?cm12 ?ck12 ?ci12 ?cg12 ?ch12 ?cp12 ?cs12 ?cc12 ?cx12 ?cl12 ?ct12 ?cu11_12 ?cu12_12 ?cu13_12 ?ca13 ?cm13 ?ck13 ?cg13 ?ch13 ?cp13 ?cs13 ?cc13 ?cx13 ?cl13 ?ct13 ?cn_first_13 ?cn_second_13 ?cn_across_13 ?cu11_13 ?cu12_13 ?cu13_13 ?cy ?cz ?z_abs ?z_bool ?z_isinstance ?z_len ?z_list ?z_min ?z_range ?z_set ?z_sum ?a0 ?l0 ?c0 ?k0 ?i1 ?a1 ?l1 ?c1 ?k1 ?i2 ?a2 ?l2 ?c2 ?k2 ?i3 ?a3 ?l3 ?c3 ?k3 ?a4 ?l4 ?c4 ?k4 ?a5 ?l5 ?c5 ?k5 ?a6 ?l6 ?c6 ?k6 ?a7 ?l7 ?c7 ?k7 ?a8 ?l8 ?c8 ?k8 ?a9 ?l9 ?c9 ?k9 ?a10 ?l10 ?c10 ?k10
    (case ca11 => k_is)
    (case ca12 => k_is)
    (case ca13 => k_is)
    (case cm11 => k_is)
    (case ck11 => k_is)
    (case ci11 => k_is)
    (case cg11 => k_is)
    (case ch11 => k_is)
    (case cp11 => k_is)
    (case cs11 => k_is)
    (case cc11 => k_is)
    (case cx11 => k_is)
    (case cl11 => k_is)
    (case ct11 => k_is)
    (case cu11_11 => k_is)
    (case cu12_11 => k_is)
    (case cu13_11 => k_is)
    (case cm12 => k_is)
    (case ck12 => k_is)
    (case ci12 => k_is)
    (case cg12 => k_is)
    (case ch12 => k_is)
    (case cp12 => k_is)
    (case cs12 => k_is)
    (case cc12 => k_is)
    (case cx12 => k_is)
    (case cl12 => k_is)
    (case ct12 => k_is)
    (case cu11_12 => k_is)
    (case cu12_12 => k_is)
    (case cu13_12 => k_is)
    (case cm13 => k_is)
    (case ck13 => k_is)
    (case cg13 => k_is)
    (case ch13 => k_is)
    (case cp13 => k_is)
    (case cs13 => k_is)
    (case cc13 => k_is)
    (case cx13 => k_is)
    (case cl13 => k_is)
    (case ct13 => k_is)
    (case cn_first_13 => k_is)
    (case cn_second_13 => k_is)
    (case cn_across_13 => k_is)
    (case cu11_13 => k_is)
    (case cu12_13 => k_is)
    (case cu13_13 => k_is)
    (case cy => k_is)
    (case cz => k_is)
    (case z_abs => k_is)
    (case z_bool => k_is)
    (case z_isinstance => k_is)
    (case z_len => k_is)
    (case z_list => k_is)
    (case z_min => k_is)
    (case z_range => k_is)
    (case z_set => k_is)
    (case z_sum => k_is)
    (case a0 => k_is)
    (case l0 => k_is)
    (case c0 => k_is)
    (case k0 => k_is)
    (case i1 => k_is)
    (case a1 => k_is)
    (case l1 => k_is)
    (case c1 => k_is)
    (case k1 => k_is)
    (case i2 => k_is)
    (case a2 => k_is)
    (case l2 => k_is)
    (case c2 => k_is)
    (case k2 => k_is)
    (case i3 => k_is)
    (case a3 => k_is)
    (case l3 => k_is)
    (case c3 => k_is)
    (case k3 => k_is)
    (case a4 => k_is)
    (case l4 => k_is)
    (case c4 => k_is)
    (case k4 => k_is)
    (case a5 => k_is)
    (case l5 => k_is)
    (case c5 => k_is)
    (case k5 => k_is)
    (case a6 => k_is)
    (case l6 => k_is)
    (case c6 => k_is)
    (case k6 => k_is)
    (case a7 => k_is)
    (case l7 => k_is)
    (case c7 => k_is)
    (case k7 => k_is)
    (case a8 => k_is)
    (case l8 => k_is)
    (case c8 => k_is)
    (case k8 => k_is)
    (case a9 => k_is)
    (case l9 => k_is)
    (case c9 => k_is)
    (case k9 => k_is)
    (case a10 => k_is)
    (case l10 => k_is)
    (case c10 => k_is)
    (case k10 => k_is)
