import PyProof.Rows.All
import Wide.All
import OpenK.AllK
import Wide.FinOn
import HandS.ForList
import HandS.Wide
import HandS.WideBits
import HandS.IsInst
import HandS.Flow
import PySem.Challenge.RW_hushlink_k12_whole_ladder_multiplies
set_option Elab.async false
set_option linter.all false
set_option maxRecDepth 100000
namespace K12
/-! ### powers modulo m, reckoned by halving -/
def pm (m : Nat) : Nat → Nat → Nat → Nat
  | 0, _, _ => 1 % m
  | f + 1, b, e => if e = 0 then 1 % m else if e % 2 = 1 then pm m f (b * b % m) (e / 2) * b % m else pm m f (b * b % m) (e / 2)

theorem pow_mod' (b e m : Nat) : (b % m) ^ e % m = b ^ e % m := (Nat.pow_mod b e m).symm

theorem pm_eq (m : Nat) : ∀ (f b e : Nat), e < 2 ^ f → pm m f b e = b ^ e % m
  | 0, b, e, h => by
    have : e = 0 := by simpa using h
    subst this; rfl
  | f + 1, b, e, h => by
    unfold pm
    have hlt : e / 2 < 2 ^ f := by
      rw [Nat.pow_succ] at h; omega
    have key : (b * b % m) ^ (e / 2) % m = b ^ (2 * (e / 2)) % m := by
      rw [pow_mod', Nat.pow_mul, Nat.pow_two]
    by_cases h0 : e = 0
    · subst h0; simp
    · rw [if_neg h0]
      by_cases h1 : e % 2 = 1
      · rw [if_pos h1, pm_eq m f _ _ hlt, Nat.mod_mul_mod, ← Nat.mod_mul_mod, key, Nat.mod_mul_mod, ← Nat.pow_succ]
        have : (2 * (e / 2)).succ = e := by omega
        rw [this]
      · rw [if_neg h1, pm_eq m f _ _ hlt, key]
        have : 2 * (e / 2) = e := by omega
        rw [this]

/-! ### a function from n numbers into n numbers that is injective is onto -/
theorem onto : ∀ (n : Nat) (f : Nat → Nat), (∀ x, x < n → f x < n) → (∀ x y, x < n → y < n → f x = f y → x = y) → ∀ y, y < n → ∃ x, x < n ∧ f x = y
  | 0, _, _, _, y, hy => absurd hy (Nat.not_lt_zero y)
  | n + 1, f, hf, hi, y, hy => by
    have ih := onto n (fun x => if f x = n then f n else f x)
      (fun x hx => by
        show (if f x = n then f n else f x) < n
        by_cases h : f x = n
        · rw [if_pos h]
          have h1 : f n < n + 1 := hf n (Nat.lt_succ_self n)
          have h2 : f n ≠ n := fun e => by
            have := hi x n (by omega) (by omega) (h.trans e.symm)
            omega
          omega
        · rw [if_neg h]
          have h1 : f x < n + 1 := hf x (by omega)
          omega)
      (fun x z hx hz e => by
        have e' : (if f x = n then f n else f x) = (if f z = n then f n else f z) := e
        by_cases h : f x = n
        · by_cases h' : f z = n
          · exact hi x z (by omega) (by omega) (h.trans h'.symm)
          · rw [if_pos h, if_neg h'] at e'
            have := hi n z (by omega) (by omega) e'
            omega
        · by_cases h' : f z = n
          · rw [if_neg h, if_pos h'] at e'
            have := hi x n (by omega) (by omega) e'
            omega
          · rw [if_neg h, if_neg h'] at e'
            exact hi x z (by omega) (by omega) e')
    by_cases hyn : y < n
    · obtain ⟨x, hx, e⟩ := ih y hyn
      have e' : (if f x = n then f n else f x) = y := e
      by_cases h : f x = n
      · rw [if_pos h] at e'
        exact ⟨n, Nat.lt_succ_self n, e'⟩
      · rw [if_neg h] at e'
        exact ⟨x, by omega, e'⟩
    · have hy' : y = n := by omega
      by_cases h : f n = n
      · exact ⟨n, Nat.lt_succ_self n, h.trans hy'.symm⟩
      · have h1 : f n < n + 1 := hf n (Nat.lt_succ_self n)
        obtain ⟨x, hx, e⟩ := ih (f n) (by omega)
        have e' : (if f x = n then f n else f x) = f n := e
        by_cases h2 : f x = n
        · exact ⟨x, by omega, h2.trans hy'.symm⟩
        · rw [if_neg h2] at e'
          have := hi x n (by omega) (by omega) e'
          omega

/-! ### what is asked of a prime -/
def Pr (q : Nat) : Prop := 1 < q ∧ ∀ e, q ∣ e ∨ Nat.gcd e q = 1

def prodL : List Nat → Nat
  | [] => 1
  | q :: r => q * prodL r

/-- a divisor of a product of primes that is not 1 is divided by one of them -/
theorem some_prime : ∀ (l : List Nat), (∀ q ∈ l, Pr q) → ∀ e, e ∣ prodL l → e ≠ 1 → ∃ q ∈ l, q ∣ e
  | [], _, e, h, h1 => absurd (Nat.dvd_one.mp h) h1
  | q :: r, hp, e, h, h1 => by
    rcases (hp q (List.mem_cons_self)).2 e with hd | hg
    · exact ⟨q, List.mem_cons_self, hd⟩
    · have h' : e ∣ prodL r := Nat.Coprime.dvd_of_dvd_mul_left hg h
      obtain ⟨z, hz, d⟩ := some_prime r (fun z hz => hp z (List.mem_cons_of_mem _ hz)) e h' h1
      exact ⟨z, List.mem_cons_of_mem _ hz, d⟩

theorem pow_mul_one {g m k j : Nat} (h : g ^ k % m = 1 % m) : g ^ (k * j) % m = 1 % m := by
  rw [Nat.pow_mul, ← pow_mod' (g ^ k), h, pow_mod', Nat.one_pow]

/-- cancelling a number with an inverse -/
theorem cancel {g h m a b : Nat} (e : h * g % m = 1 % m) (k : g * a % m = g * b % m) : a % m = b % m := by
  have h1 : h * (g * a) % m = h * (g * b) % m := by
    rw [Nat.mul_mod, k, ← Nat.mul_mod]
  rw [← Nat.mul_assoc, ← Nat.mul_assoc, Nat.mul_mod, e, Nat.mul_mod (h * g) b, e, ← Nat.mul_mod, ← Nat.mul_mod, Nat.one_mul, Nat.one_mul] at h1
  exact h1

theorem cancel_pow {g h m a b : Nat} (e : h * g % m = 1 % m) : ∀ k, g ^ k * a % m = g ^ k * b % m → a % m = b % m
  | 0, k => by simpa using k
  | k + 1, hk => by
    rw [Nat.pow_succ, Nat.mul_assoc, Nat.mul_assoc] at hk
    exact cancel e (cancel_pow e k hk)

/-- the least exponent -/
theorem dvd_of_pow {g m : Nat} {n : Nat} (l : List Nat) (hl : ∀ q ∈ l, Pr q) (hn : prodL l = n) (h1 : g ^ n % m = 1 % m)
    (h2 : ∀ q ∈ l, g ^ (n / q) % m ≠ 1 % m) (hpos : 0 < n) : ∀ k, g ^ k % m = 1 % m → n ∣ k := by
  -- the gcd of n and k is an exponent, too
  have inv : g ^ (n - 1) * g % m = 1 % m := by
    rw [← Nat.pow_succ]
    have : (n - 1).succ = n := by omega
    rw [this]; exact h1
  have gcds : ∀ a b, g ^ a % m = 1 % m → g ^ b % m = 1 % m → g ^ (Nat.gcd a b) % m = 1 % m := by
    intro a
    induction a using Nat.strongRecOn with
    | ind a ih =>
      intro b ha hb
      by_cases h0 : a = 0
      · subst h0
        rw [Nat.gcd_zero_left]; exact hb
      · rw [Nat.gcd_rec]
        refine ih (b % a) (Nat.mod_lt _ (by omega)) a ?_ ha
        -- g ^ (b % a)
        have hb' : g ^ (a * (b / a)) * g ^ (b % a) % m = 1 % m := by
          rw [← Nat.pow_add, Nat.div_add_mod]; exact hb
        have : g ^ (a * (b / a)) % m = 1 % m := pow_mul_one ha
        rw [Nat.mul_mod, this, ← Nat.mul_mod, Nat.one_mul] at hb'
        exact hb'
  intro k hk
  have hg := gcds n k h1 hk
  have hd : Nat.gcd n k ∣ n := Nat.gcd_dvd_left n k
  obtain ⟨c, hc⟩ := hd
  by_cases c1 : c = 1
  · rw [c1, Nat.mul_one] at hc
    rw [hc]; exact Nat.gcd_dvd_right n k
  · exfalso
    have : c ∣ prodL l := by
      rw [hn]; exact ⟨Nat.gcd n k, by rw [Nat.mul_comm]; exact hc⟩
    obtain ⟨q, hq, ⟨d, hd⟩⟩ := some_prime l hl c this c1
    refine h2 q hq ?_
    have hqpos : 0 < q := Nat.lt_trans Nat.zero_lt_one (hl q hq).1
    have e : n / q = Nat.gcd n k * d := by
      have : n = q * (Nat.gcd n k * d) := by
        rw [← Nat.mul_assoc, Nat.mul_comm q, Nat.mul_assoc, ← hd]; exact hc
      exact Nat.div_eq_of_eq_mul_right hqpos this
    rw [e]
    exact pow_mul_one hg

/-- Lucas: every rest but 0 is a power of g -/
theorem lucas_gen {p g : Nat} (l : List Nat) (hp : 1 < p) (hl : ∀ q ∈ l, Pr q) (hn : prodL l = p - 1) (h1 : g ^ (p - 1) % p = 1 % p)
    (h2 : ∀ q ∈ l, g ^ ((p - 1) / q) % p ≠ 1 % p) : ∀ y, 0 < y → y < p → ∃ k, g ^ k % p = y := by
  have hdv := dvd_of_pow l hl hn h1 h2 (by omega)
  have inv : g ^ (p - 2) * g % p = 1 % p := by
    rw [← Nat.pow_succ]
    have : (p - 2).succ = p - 1 := by omega
    rw [this]; exact h1
  have one : 1 % p = 1 := Nat.mod_eq_of_lt hp
  have npos : ∀ k, 0 < g ^ k % p := by
    intro k
    rcases Nat.eq_zero_or_pos (g ^ k % p) with h | h
    · exfalso
      have hz : g ^ k * 1 % p = g ^ k * 0 % p := by
        rw [Nat.mul_one, Nat.mul_zero, h, Nat.zero_mod]
      have := cancel_pow inv k hz
      rw [one, Nat.zero_mod] at this
      omega
    · exact h
  have inj : ∀ x y, x ≤ y → y < p - 1 → g ^ x % p = g ^ y % p → x = y := by
    intro x y hxy hy e
    have h3 : g ^ x * 1 % p = g ^ x * g ^ (y - x) % p := by
      rw [Nat.mul_one, ← Nat.pow_add, Nat.add_sub_cancel' hxy]; exact e
    have h4 := cancel_pow inv x h3
    have := hdv (y - x) h4.symm
    rcases Nat.eq_zero_or_pos (y - x) with h | h
    · omega
    · have := Nat.le_of_dvd h this
      omega
  have key := onto (p - 1) (fun k => g ^ k % p - 1)
    (fun x _ => by
      have := Nat.mod_lt (g ^ x) (show 0 < p by omega)
      have := npos x
      show g ^ x % p - 1 < p - 1
      omega)
    (fun x y hx hy e => by
      have e' : g ^ x % p - 1 = g ^ y % p - 1 := e
      have := npos x
      have := npos y
      have e2 : g ^ x % p = g ^ y % p := by omega
      rcases Nat.le_total x y with h | h
      · exact inj x y h hy e2
      · exact (inj y x h hx e2.symm).symm)
  intro y hy hyp
  obtain ⟨k, _, e⟩ := key (y - 1) (by omega)
  have e' : g ^ k % p - 1 = y - 1 := e
  have := npos k
  exact ⟨k, by omega⟩

theorem lucas_fermat {p g : Nat} (l : List Nat) (hp : 1 < p) (hl : ∀ q ∈ l, Pr q) (hn : prodL l = p - 1) (h1 : g ^ (p - 1) % p = 1 % p)
    (h2 : ∀ q ∈ l, g ^ ((p - 1) / q) % p ≠ 1 % p) (y : Nat) (hy : y % p ≠ 0) : y ^ (p - 1) % p = 1 % p := by
  obtain ⟨k, hk⟩ := lucas_gen l hp hl hn h1 h2 (y % p) (Nat.pos_of_ne_zero hy) (Nat.mod_lt _ (by omega))
  rw [← pow_mod', ← hk, pow_mod', ← Nat.pow_mul, Nat.mul_comm]
  exact pow_mul_one h1

theorem lucas {p : Nat} (g : Nat) (l : List Nat) (hp : 1 < p) (hl : ∀ q ∈ l, Pr q) (hn : prodL l = p - 1) (h1 : g ^ (p - 1) % p = 1 % p)
    (h2 : ∀ q ∈ l, g ^ ((p - 1) / q) % p ≠ 1 % p) : Pr p := by
  refine ⟨hp, fun e => ?_⟩
  by_cases h : e % p = 0
  · exact .inl (Nat.dvd_of_mod_eq_zero h)
  · refine .inr ?_
    have hf := lucas_fermat l hp hl hn h1 h2 e h
    -- a common divisor divides 1
    have hd1 : Nat.gcd e p ∣ e ^ (p - 1) := Nat.dvd_trans (Nat.gcd_dvd_left e p) (Nat.dvd_trans (Nat.dvd_refl e) (by
      have : p - 1 = (p - 2) + 1 := by omega
      rw [this, Nat.pow_succ]; exact Nat.dvd_mul_left e _))
    have hd2 : Nat.gcd e p ∣ p := Nat.gcd_dvd_right e p
    have hd3 : Nat.gcd e p ∣ e ^ (p - 1) % p := (Nat.dvd_mod_iff hd2).mpr hd1
    rw [hf, Nat.mod_eq_of_lt hp] at hd3
    exact Nat.dvd_one.mp hd3

/-- the same with the powers reckoned: a check that the kernel can run -/
def chk (p g f : Nat) (l : List Nat) : Bool :=
  decide (1 < p) && decide (prodL l = p - 1) && decide (p < 2 ^ f) && decide (pm p f g (p - 1) = 1) && l.all fun q => decide (pm p f g ((p - 1) / q) ≠ 1)

theorem chk_out {p g f : Nat} {l : List Nat} (h : chk p g f l = true) : 1 < p ∧ prodL l = p - 1 ∧ g ^ (p - 1) % p = 1 % p ∧ ∀ q ∈ l, g ^ ((p - 1) / q) % p ≠ 1 % p := by
  simp only [chk, Bool.and_eq_true, decide_eq_true_eq, List.all_eq_true] at h
  obtain ⟨⟨⟨⟨h1, h2⟩, h3⟩, h4⟩, h5⟩ := h
  have one : 1 % p = 1 := Nat.mod_eq_of_lt h1
  have l1 : p - 1 < 2 ^ f := by omega
  refine ⟨h1, h2, ?_, fun q hq => ?_⟩
  · rw [← pm_eq p f g _ l1, h4, one]
  · have l2 : (p - 1) / q < 2 ^ f := Nat.lt_of_le_of_lt (Nat.div_le_self _ _) l1
    rw [← pm_eq p f g _ l2, one]
    exact h5 q hq

theorem prime_of {p : Nat} (g f : Nat) (l : List Nat) (h : chk p g f l = true) (hl : ∀ q ∈ l, Pr q) : Pr p :=
  have o := chk_out h
  lucas g l o.1 hl o.2.1 o.2.2.1 o.2.2.2

theorem pr2 : Pr 2 := by
  refine ⟨by decide, fun e => ?_⟩
  rcases Nat.mod_two_eq_zero_or_one e with h | h
  · exact .inl (Nat.dvd_of_mod_eq_zero h)
  · refine .inr ?_
    rw [Nat.gcd_comm, Nat.gcd_rec, h]
    rfl
end K12
namespace K12
theorem pr3 : Pr 3 :=
  prime_of 2 2 [2] (by decide +kernel) (List.forall_mem_cons.mpr ⟨pr2, fun _ h => nomatch h⟩)
theorem pr5 : Pr 5 :=
  prime_of 2 3 [2, 2] (by decide +kernel) (List.forall_mem_cons.mpr ⟨pr2, List.forall_mem_cons.mpr ⟨pr2, fun _ h => nomatch h⟩⟩)
theorem pr7 : Pr 7 :=
  prime_of 3 3 [2, 3] (by decide +kernel) (List.forall_mem_cons.mpr ⟨pr2, List.forall_mem_cons.mpr ⟨pr3, fun _ h => nomatch h⟩⟩)
theorem pr11 : Pr 11 :=
  prime_of 2 4 [2, 5] (by decide +kernel) (List.forall_mem_cons.mpr ⟨pr2, List.forall_mem_cons.mpr ⟨pr5, fun _ h => nomatch h⟩⟩)
theorem pr13 : Pr 13 :=
  prime_of 2 4 [2, 2, 3] (by decide +kernel) (List.forall_mem_cons.mpr ⟨pr2, List.forall_mem_cons.mpr ⟨pr2, List.forall_mem_cons.mpr ⟨pr3, fun _ h => nomatch h⟩⟩⟩)
theorem pr17 : Pr 17 :=
  prime_of 3 5 [2, 2, 2, 2] (by decide +kernel) (List.forall_mem_cons.mpr ⟨pr2, List.forall_mem_cons.mpr ⟨pr2, List.forall_mem_cons.mpr ⟨pr2, List.forall_mem_cons.mpr ⟨pr2, fun _ h => nomatch h⟩⟩⟩⟩)
theorem pr19 : Pr 19 :=
  prime_of 2 5 [2, 3, 3] (by decide +kernel) (List.forall_mem_cons.mpr ⟨pr2, List.forall_mem_cons.mpr ⟨pr3, List.forall_mem_cons.mpr ⟨pr3, fun _ h => nomatch h⟩⟩⟩)
theorem pr23 : Pr 23 :=
  prime_of 5 5 [2, 11] (by decide +kernel) (List.forall_mem_cons.mpr ⟨pr2, List.forall_mem_cons.mpr ⟨pr11, fun _ h => nomatch h⟩⟩)
theorem pr29 : Pr 29 :=
  prime_of 2 5 [2, 2, 7] (by decide +kernel) (List.forall_mem_cons.mpr ⟨pr2, List.forall_mem_cons.mpr ⟨pr2, List.forall_mem_cons.mpr ⟨pr7, fun _ h => nomatch h⟩⟩⟩)
theorem pr31 : Pr 31 :=
  prime_of 3 5 [2, 3, 5] (by decide +kernel) (List.forall_mem_cons.mpr ⟨pr2, List.forall_mem_cons.mpr ⟨pr3, List.forall_mem_cons.mpr ⟨pr5, fun _ h => nomatch h⟩⟩⟩)
theorem pr37 : Pr 37 :=
  prime_of 2 6 [2, 2, 3, 3] (by decide +kernel) (List.forall_mem_cons.mpr ⟨pr2, List.forall_mem_cons.mpr ⟨pr2, List.forall_mem_cons.mpr ⟨pr3, List.forall_mem_cons.mpr ⟨pr3, fun _ h => nomatch h⟩⟩⟩⟩)
theorem pr41 : Pr 41 :=
  prime_of 6 6 [2, 2, 2, 5] (by decide +kernel) (List.forall_mem_cons.mpr ⟨pr2, List.forall_mem_cons.mpr ⟨pr2, List.forall_mem_cons.mpr ⟨pr2, List.forall_mem_cons.mpr ⟨pr5, fun _ h => nomatch h⟩⟩⟩⟩)
theorem pr43 : Pr 43 :=
  prime_of 3 6 [2, 3, 7] (by decide +kernel) (List.forall_mem_cons.mpr ⟨pr2, List.forall_mem_cons.mpr ⟨pr3, List.forall_mem_cons.mpr ⟨pr7, fun _ h => nomatch h⟩⟩⟩)
theorem pr47 : Pr 47 :=
  prime_of 5 6 [2, 23] (by decide +kernel) (List.forall_mem_cons.mpr ⟨pr2, List.forall_mem_cons.mpr ⟨pr23, fun _ h => nomatch h⟩⟩)
theorem pr53 : Pr 53 :=
  prime_of 2 6 [2, 2, 13] (by decide +kernel) (List.forall_mem_cons.mpr ⟨pr2, List.forall_mem_cons.mpr ⟨pr2, List.forall_mem_cons.mpr ⟨pr13, fun _ h => nomatch h⟩⟩⟩)
theorem pr59 : Pr 59 :=
  prime_of 2 6 [2, 29] (by decide +kernel) (List.forall_mem_cons.mpr ⟨pr2, List.forall_mem_cons.mpr ⟨pr29, fun _ h => nomatch h⟩⟩)
theorem pr83 : Pr 83 :=
  prime_of 2 7 [2, 41] (by decide +kernel) (List.forall_mem_cons.mpr ⟨pr2, List.forall_mem_cons.mpr ⟨pr41, fun _ h => nomatch h⟩⟩)
theorem pr97 : Pr 97 :=
  prime_of 5 7 [2, 2, 2, 2, 2, 3] (by decide +kernel) (List.forall_mem_cons.mpr ⟨pr2, List.forall_mem_cons.mpr ⟨pr2, List.forall_mem_cons.mpr ⟨pr2, List.forall_mem_cons.mpr ⟨pr2, List.forall_mem_cons.mpr ⟨pr2, List.forall_mem_cons.mpr ⟨pr3, fun _ h => nomatch h⟩⟩⟩⟩⟩⟩)
theorem pr103 : Pr 103 :=
  prime_of 5 7 [2, 3, 17] (by decide +kernel) (List.forall_mem_cons.mpr ⟨pr2, List.forall_mem_cons.mpr ⟨pr3, List.forall_mem_cons.mpr ⟨pr17, fun _ h => nomatch h⟩⟩⟩)
theorem pr107 : Pr 107 :=
  prime_of 2 7 [2, 53] (by decide +kernel) (List.forall_mem_cons.mpr ⟨pr2, List.forall_mem_cons.mpr ⟨pr53, fun _ h => nomatch h⟩⟩)
theorem pr127 : Pr 127 :=
  prime_of 3 7 [2, 3, 3, 7] (by decide +kernel) (List.forall_mem_cons.mpr ⟨pr2, List.forall_mem_cons.mpr ⟨pr3, List.forall_mem_cons.mpr ⟨pr3, List.forall_mem_cons.mpr ⟨pr7, fun _ h => nomatch h⟩⟩⟩⟩)
theorem pr131 : Pr 131 :=
  prime_of 2 8 [2, 5, 13] (by decide +kernel) (List.forall_mem_cons.mpr ⟨pr2, List.forall_mem_cons.mpr ⟨pr5, List.forall_mem_cons.mpr ⟨pr13, fun _ h => nomatch h⟩⟩⟩)
theorem pr173 : Pr 173 :=
  prime_of 2 8 [2, 2, 43] (by decide +kernel) (List.forall_mem_cons.mpr ⟨pr2, List.forall_mem_cons.mpr ⟨pr2, List.forall_mem_cons.mpr ⟨pr43, fun _ h => nomatch h⟩⟩⟩)
theorem pr223 : Pr 223 :=
  prime_of 3 8 [2, 3, 37] (by decide +kernel) (List.forall_mem_cons.mpr ⟨pr2, List.forall_mem_cons.mpr ⟨pr3, List.forall_mem_cons.mpr ⟨pr37, fun _ h => nomatch h⟩⟩⟩)
theorem pr239 : Pr 239 :=
  prime_of 7 8 [2, 7, 17] (by decide +kernel) (List.forall_mem_cons.mpr ⟨pr2, List.forall_mem_cons.mpr ⟨pr7, List.forall_mem_cons.mpr ⟨pr17, fun _ h => nomatch h⟩⟩⟩)
theorem pr353 : Pr 353 :=
  prime_of 3 9 [2, 2, 2, 2, 2, 11] (by decide +kernel) (List.forall_mem_cons.mpr ⟨pr2, List.forall_mem_cons.mpr ⟨pr2, List.forall_mem_cons.mpr ⟨pr2, List.forall_mem_cons.mpr ⟨pr2, List.forall_mem_cons.mpr ⟨pr2, List.forall_mem_cons.mpr ⟨pr11, fun _ h => nomatch h⟩⟩⟩⟩⟩⟩)
theorem pr419 : Pr 419 :=
  prime_of 2 9 [2, 11, 19] (by decide +kernel) (List.forall_mem_cons.mpr ⟨pr2, List.forall_mem_cons.mpr ⟨pr11, List.forall_mem_cons.mpr ⟨pr19, fun _ h => nomatch h⟩⟩⟩)
theorem pr479 : Pr 479 :=
  prime_of 13 9 [2, 239] (by decide +kernel) (List.forall_mem_cons.mpr ⟨pr2, List.forall_mem_cons.mpr ⟨pr239, fun _ h => nomatch h⟩⟩)
theorem pr487 : Pr 487 :=
  prime_of 3 9 [2, 3, 3, 3, 3, 3] (by decide +kernel) (List.forall_mem_cons.mpr ⟨pr2, List.forall_mem_cons.mpr ⟨pr3, List.forall_mem_cons.mpr ⟨pr3, List.forall_mem_cons.mpr ⟨pr3, List.forall_mem_cons.mpr ⟨pr3, List.forall_mem_cons.mpr ⟨pr3, fun _ h => nomatch h⟩⟩⟩⟩⟩⟩)
theorem pr991 : Pr 991 :=
  prime_of 6 10 [2, 3, 3, 5, 11] (by decide +kernel) (List.forall_mem_cons.mpr ⟨pr2, List.forall_mem_cons.mpr ⟨pr3, List.forall_mem_cons.mpr ⟨pr3, List.forall_mem_cons.mpr ⟨pr5, List.forall_mem_cons.mpr ⟨pr11, fun _ h => nomatch h⟩⟩⟩⟩⟩)
theorem pr1723 : Pr 1723 :=
  prime_of 3 11 [2, 3, 7, 41] (by decide +kernel) (List.forall_mem_cons.mpr ⟨pr2, List.forall_mem_cons.mpr ⟨pr3, List.forall_mem_cons.mpr ⟨pr7, List.forall_mem_cons.mpr ⟨pr41, fun _ h => nomatch h⟩⟩⟩⟩)
theorem pr2437 : Pr 2437 :=
  prime_of 2 12 [2, 2, 3, 7, 29] (by decide +kernel) (List.forall_mem_cons.mpr ⟨pr2, List.forall_mem_cons.mpr ⟨pr2, List.forall_mem_cons.mpr ⟨pr3, List.forall_mem_cons.mpr ⟨pr7, List.forall_mem_cons.mpr ⟨pr29, fun _ h => nomatch h⟩⟩⟩⟩⟩)
theorem pr3727 : Pr 3727 :=
  prime_of 3 12 [2, 3, 3, 3, 3, 23] (by decide +kernel) (List.forall_mem_cons.mpr ⟨pr2, List.forall_mem_cons.mpr ⟨pr3, List.forall_mem_cons.mpr ⟨pr3, List.forall_mem_cons.mpr ⟨pr3, List.forall_mem_cons.mpr ⟨pr3, List.forall_mem_cons.mpr ⟨pr23, fun _ h => nomatch h⟩⟩⟩⟩⟩⟩)
theorem pr4153 : Pr 4153 :=
  prime_of 5 13 [2, 2, 2, 3, 173] (by decide +kernel) (List.forall_mem_cons.mpr ⟨pr2, List.forall_mem_cons.mpr ⟨pr2, List.forall_mem_cons.mpr ⟨pr2, List.forall_mem_cons.mpr ⟨pr3, List.forall_mem_cons.mpr ⟨pr173, fun _ h => nomatch h⟩⟩⟩⟩⟩)
theorem pr9463 : Pr 9463 :=
  prime_of 3 14 [2, 3, 19, 83] (by decide +kernel) (List.forall_mem_cons.mpr ⟨pr2, List.forall_mem_cons.mpr ⟨pr3, List.forall_mem_cons.mpr ⟨pr19, List.forall_mem_cons.mpr ⟨pr83, fun _ h => nomatch h⟩⟩⟩⟩)
theorem pr32573 : Pr 32573 :=
  prime_of 2 15 [2, 2, 17, 479] (by decide +kernel) (List.forall_mem_cons.mpr ⟨pr2, List.forall_mem_cons.mpr ⟨pr2, List.forall_mem_cons.mpr ⟨pr17, List.forall_mem_cons.mpr ⟨pr479, fun _ h => nomatch h⟩⟩⟩⟩)
theorem pr37853 : Pr 37853 :=
  prime_of 2 16 [2, 2, 9463] (by decide +kernel) (List.forall_mem_cons.mpr ⟨pr2, List.forall_mem_cons.mpr ⟨pr2, List.forall_mem_cons.mpr ⟨pr9463, fun _ h => nomatch h⟩⟩⟩)
theorem pr57467 : Pr 57467 :=
  prime_of 2 16 [2, 59, 487] (by decide +kernel) (List.forall_mem_cons.mpr ⟨pr2, List.forall_mem_cons.mpr ⟨pr59, List.forall_mem_cons.mpr ⟨pr487, fun _ h => nomatch h⟩⟩⟩)
theorem pr65147 : Pr 65147 :=
  prime_of 2 16 [2, 32573] (by decide +kernel) (List.forall_mem_cons.mpr ⟨pr2, List.forall_mem_cons.mpr ⟨pr32573, fun _ h => nomatch h⟩⟩)
theorem pr75707 : Pr 75707 :=
  prime_of 2 17 [2, 37853] (by decide +kernel) (List.forall_mem_cons.mpr ⟨pr2, List.forall_mem_cons.mpr ⟨pr37853, fun _ h => nomatch h⟩⟩)
theorem pr132049 : Pr 132049 :=
  prime_of 26 18 [2, 2, 2, 2, 3, 3, 7, 131] (by decide +kernel) (List.forall_mem_cons.mpr ⟨pr2, List.forall_mem_cons.mpr ⟨pr2, List.forall_mem_cons.mpr ⟨pr2, List.forall_mem_cons.mpr ⟨pr2, List.forall_mem_cons.mpr ⟨pr3, List.forall_mem_cons.mpr ⟨pr3, List.forall_mem_cons.mpr ⟨pr7, List.forall_mem_cons.mpr ⟨pr131, fun _ h => nomatch h⟩⟩⟩⟩⟩⟩⟩⟩)
theorem pr430751 : Pr 430751 :=
  prime_of 17 19 [2, 5, 5, 5, 1723] (by decide +kernel) (List.forall_mem_cons.mpr ⟨pr2, List.forall_mem_cons.mpr ⟨pr5, List.forall_mem_cons.mpr ⟨pr5, List.forall_mem_cons.mpr ⟨pr5, List.forall_mem_cons.mpr ⟨pr1723, fun _ h => nomatch h⟩⟩⟩⟩⟩)
theorem pr569003 : Pr 569003 :=
  prime_of 2 20 [2, 7, 97, 419] (by decide +kernel) (List.forall_mem_cons.mpr ⟨pr2, List.forall_mem_cons.mpr ⟨pr7, List.forall_mem_cons.mpr ⟨pr97, List.forall_mem_cons.mpr ⟨pr419, fun _ h => nomatch h⟩⟩⟩⟩)
theorem pr1923133 : Pr 1923133 :=
  prime_of 2 21 [2, 2, 3, 43, 3727] (by decide +kernel) (List.forall_mem_cons.mpr ⟨pr2, List.forall_mem_cons.mpr ⟨pr2, List.forall_mem_cons.mpr ⟨pr3, List.forall_mem_cons.mpr ⟨pr43, List.forall_mem_cons.mpr ⟨pr3727, fun _ h => nomatch h⟩⟩⟩⟩⟩)
theorem pr8574133 : Pr 8574133 :=
  prime_of 2 24 [2, 2, 3, 7, 103, 991] (by decide +kernel) (List.forall_mem_cons.mpr ⟨pr2, List.forall_mem_cons.mpr ⟨pr2, List.forall_mem_cons.mpr ⟨pr3, List.forall_mem_cons.mpr ⟨pr7, List.forall_mem_cons.mpr ⟨pr103, List.forall_mem_cons.mpr ⟨pr991, fun _ h => nomatch h⟩⟩⟩⟩⟩⟩)
theorem pr2773320623 : Pr 2773320623 :=
  prime_of 5 32 [2, 2437, 569003] (by decide +kernel) (List.forall_mem_cons.mpr ⟨pr2, List.forall_mem_cons.mpr ⟨pr2437, List.forall_mem_cons.mpr ⟨pr569003, fun _ h => nomatch h⟩⟩⟩)
theorem pr72106336199 : Pr 72106336199 :=
  prime_of 7 37 [2, 13, 2773320623] (by decide +kernel) (List.forall_mem_cons.mpr ⟨pr2, List.forall_mem_cons.mpr ⟨pr13, List.forall_mem_cons.mpr ⟨pr2773320623, fun _ h => nomatch h⟩⟩⟩)
theorem pr1919519569386763 : Pr 1919519569386763 :=
  prime_of 2 51 [2, 3, 7, 19, 47, 47, 127, 8574133] (by decide +kernel) (List.forall_mem_cons.mpr ⟨pr2, List.forall_mem_cons.mpr ⟨pr3, List.forall_mem_cons.mpr ⟨pr7, List.forall_mem_cons.mpr ⟨pr19, List.forall_mem_cons.mpr ⟨pr47, List.forall_mem_cons.mpr ⟨pr47, List.forall_mem_cons.mpr ⟨pr127, List.forall_mem_cons.mpr ⟨pr8574133, fun _ h => nomatch h⟩⟩⟩⟩⟩⟩⟩⟩)
theorem pr31757755568855353 : Pr 31757755568855353 :=
  prime_of 10 55 [2, 2, 2, 3, 31, 107, 223, 4153, 430751] (by decide +kernel) (List.forall_mem_cons.mpr ⟨pr2, List.forall_mem_cons.mpr ⟨pr2, List.forall_mem_cons.mpr ⟨pr2, List.forall_mem_cons.mpr ⟨pr3, List.forall_mem_cons.mpr ⟨pr31, List.forall_mem_cons.mpr ⟨pr107, List.forall_mem_cons.mpr ⟨pr223, List.forall_mem_cons.mpr ⟨pr4153, List.forall_mem_cons.mpr ⟨pr430751, fun _ h => nomatch h⟩⟩⟩⟩⟩⟩⟩⟩⟩)
theorem pr75445702479781427272750846543864801 : Pr 75445702479781427272750846543864801 :=
  prime_of 7 116 [2, 2, 2, 2, 2, 3, 3, 5, 5, 75707, 72106336199, 1919519569386763] (by decide +kernel) (List.forall_mem_cons.mpr ⟨pr2, List.forall_mem_cons.mpr ⟨pr2, List.forall_mem_cons.mpr ⟨pr2, List.forall_mem_cons.mpr ⟨pr2, List.forall_mem_cons.mpr ⟨pr2, List.forall_mem_cons.mpr ⟨pr3, List.forall_mem_cons.mpr ⟨pr3, List.forall_mem_cons.mpr ⟨pr5, List.forall_mem_cons.mpr ⟨pr5, List.forall_mem_cons.mpr ⟨pr75707, List.forall_mem_cons.mpr ⟨pr72106336199, List.forall_mem_cons.mpr ⟨pr1919519569386763, fun _ h => nomatch h⟩⟩⟩⟩⟩⟩⟩⟩⟩⟩⟩⟩)
theorem pr74058212732561358302231226437062788676166966415465897661863160754340907 : Pr 74058212732561358302231226437062788676166966415465897661863160754340907 :=
  prime_of 2 236 [2, 3, 353, 57467, 132049, 1923133, 31757755568855353, 75445702479781427272750846543864801] (by decide +kernel) (List.forall_mem_cons.mpr ⟨pr2, List.forall_mem_cons.mpr ⟨pr3, List.forall_mem_cons.mpr ⟨pr353, List.forall_mem_cons.mpr ⟨pr57467, List.forall_mem_cons.mpr ⟨pr132049, List.forall_mem_cons.mpr ⟨pr1923133, List.forall_mem_cons.mpr ⟨pr31757755568855353, List.forall_mem_cons.mpr ⟨pr75445702479781427272750846543864801, fun _ h => nomatch h⟩⟩⟩⟩⟩⟩⟩⟩)
theorem pr57896044618658097711785492504343953926634992332820282019728792003956564819949 : Pr 57896044618658097711785492504343953926634992332820282019728792003956564819949 :=
  prime_of 2 255 [2, 2, 3, 65147, 74058212732561358302231226437062788676166966415465897661863160754340907] (by decide +kernel) (List.forall_mem_cons.mpr ⟨pr2, List.forall_mem_cons.mpr ⟨pr2, List.forall_mem_cons.mpr ⟨pr3, List.forall_mem_cons.mpr ⟨pr65147, List.forall_mem_cons.mpr ⟨pr74058212732561358302231226437062788676166966415465897661863160754340907, fun _ h => nomatch h⟩⟩⟩⟩⟩)
end K12
namespace K12
open Lean.Grind
/-! ### the complete Edwards curve x^2 + y^2 = 1 + d x^2 y^2 over a field -/
structure Crv (F : Type) [CommRing F] where
  inv : F → F
  d : F
  two : (2 : F) ≠ 0
  mul : ∀ a : F, a ≠ 0 → a * inv a = 1
  inv0 : inv 0 = 0
  ns : ∀ a b : F, a * a = d * (b * b) → b = 0

variable {F : Type} [CommRing F]

theorem Crv.dom (C : Crv F) {a b : F} (h : a * b = 0) (ha : a ≠ 0) : b = 0 := by
  have := C.mul a ha
  grind
theorem Crv.cancel (C : Crv F) {a b c : F} (hc : c ≠ 0) (h : a * c = b * c) : a = b := by
  have := C.mul c hc
  grind
theorem Crv.mul_ne (C : Crv F) {a b : F} (ha : a ≠ 0) (hb : b ≠ 0) : a * b ≠ 0 := fun h => hb (C.dom h ha)
theorem Crv.one_ne (C : Crv F) : (1 : F) ≠ 0 := fun h => C.two (by grind)
theorem Crv.inv_ne (C : Crv F) {a : F} (ha : a ≠ 0) : C.inv a ≠ 0 := fun h => by
  have := C.mul a ha
  have := C.one_ne
  grind

structure Pt (C : Crv F) where
  x : F
  y : F
  on : x * x + y * y = 1 + C.d * (x * x * (y * y))

theorem Pt.eq {C : Crv F} {P Q : Pt C} (hx : P.x = Q.x) (hy : P.y = Q.y) : P = Q := by
  cases P; cases Q; cases hx; cases hy; rfl

theorem complete (C : Crv F) {x1 y1 x2 y2 s : F} (e1 : x1 * x1 + y1 * y1 = 1 + C.d * (x1 * x1 * (y1 * y1))) (e2 : x2 * x2 + y2 * y2 = 1 + C.d * (x2 * x2 * (y2 * y2)))
    (hs : s * s = 1) : C.d * (x1 * x2 * (y1 * y2)) ≠ s := by
  intro h
  have h1 : (x1 + s * y1) * (x1 + s * y1) = C.d * ((x1 * y1 * (x2 + y2)) * (x1 * y1 * (x2 + y2))) := by grind
  have h2 : (x1 - s * y1) * (x1 - s * y1) = C.d * ((x1 * y1 * (x2 - y2)) * (x1 * y1 * (x2 - y2))) := by grind
  have h3 := C.ns _ _ h1
  have h4 := C.ns _ _ h2
  have hne : x1 * y1 ≠ 0 := fun z => by
    have : s = 0 := by grind
    have := C.one_ne
    grind
  have h5 := C.dom h3 hne
  have h6 := C.dom h4 hne
  have h7 : 2 * x2 = 0 := by grind
  have h8 := C.dom h7 C.two
  have := C.one_ne
  grind

theorem Crv.plus_ne (C : Crv F) (P Q : Pt C) : 1 + C.d * (P.x * Q.x * (P.y * Q.y)) ≠ 0 := fun h =>
  complete C (s := -1) P.on Q.on (by grind) (by grind)
theorem Crv.minus_ne (C : Crv F) (P Q : Pt C) : 1 - C.d * (P.x * Q.x * (P.y * Q.y)) ≠ 0 := fun h =>
  complete C (s := 1) P.on Q.on (by grind) (by grind)
theorem Crv.ry_ne (C : Crv F) (y : F) : 1 - C.d * (y * y) ≠ 0 := fun h => by
  have h1 : (1 : F) * 1 = C.d * (y * y) := by grind
  have := C.ns _ _ h1
  have := C.one_ne
  grind

def sx (C : Crv F) (P Q : Pt C) : F := (P.x * Q.y + P.y * Q.x) * C.inv (1 + C.d * (P.x * Q.x * (P.y * Q.y)))
def sy (C : Crv F) (P Q : Pt C) : F := (P.y * Q.y - P.x * Q.x) * C.inv (1 - C.d * (P.x * Q.x * (P.y * Q.y)))
theorem sx_eq (C : Crv F) (P Q : Pt C) : sx C P Q * (1 + C.d * (P.x * Q.x * (P.y * Q.y))) = P.x * Q.y + P.y * Q.x := by
  have := C.mul _ (C.plus_ne P Q)
  unfold sx
  grind
theorem sy_eq (C : Crv F) (P Q : Pt C) : sy C P Q * (1 - C.d * (P.x * Q.x * (P.y * Q.y))) = P.y * Q.y - P.x * Q.x := by
  have := C.mul _ (C.minus_ne P Q)
  unfold sy
  grind

theorem on_ring {d x1 y1 x2 y2 : F} (e1 : x1 * x1 + y1 * y1 = 1 + d * (x1 * x1 * (y1 * y1))) (e2 : x2 * x2 + y2 * y2 = 1 + d * (x2 * x2 * (y2 * y2))) :
    ((x1 * y2 + y1 * x2) * (1 - d * (x1 * x2 * (y1 * y2)))) * ((x1 * y2 + y1 * x2) * (1 - d * (x1 * x2 * (y1 * y2)))) + ((y1 * y2 - x1 * x2) * (1 + d * (x1 * x2 * (y1 * y2)))) * ((y1 * y2 - x1 * x2) * (1 + d * (x1 * x2 * (y1 * y2))))
    = ((1 + d * (x1 * x2 * (y1 * y2))) * (1 - d * (x1 * x2 * (y1 * y2)))) * ((1 + d * (x1 * x2 * (y1 * y2))) * (1 - d * (x1 * x2 * (y1 * y2)))) + d * (((x1 * y2 + y1 * x2) * (y1 * y2 - x1 * x2)) * ((x1 * y2 + y1 * x2) * (y1 * y2 - x1 * x2))) := by grind

theorem sum_on (C : Crv F) (P Q : Pt C) : sx C P Q * sx C P Q + sy C P Q * sy C P Q = 1 + C.d * (sx C P Q * sx C P Q * (sy C P Q * sy C P Q)) := by
  have hx := sx_eq C P Q
  have hy := sy_eq C P Q
  have hp := C.plus_ne P Q
  have hm := C.minus_ne P Q
  have r := on_ring P.on Q.on
  rw [← hx, ← hy] at r
  generalize sx C P Q = X at *
  generalize sy C P Q = Y at *
  generalize 1 + C.d * (P.x * Q.x * (P.y * Q.y)) = G at *
  generalize 1 - C.d * (P.x * Q.x * (P.y * Q.y)) = H at *
  refine C.cancel (C.mul_ne (C.mul_ne hp hm) (C.mul_ne hp hm)) ?_
  grind

def add (C : Crv F) (P Q : Pt C) : Pt C := ⟨sx C P Q, sy C P Q, sum_on C P Q⟩
def zero (C : Crv F) : Pt C := ⟨0, 1, by grind⟩
def neg (C : Crv F) (P : Pt C) : Pt C := ⟨-P.x, P.y, by have := P.on; grind⟩

theorem add_comm (C : Crv F) (P Q : Pt C) : add C P Q = add C Q P := by
  have e : P.x * Q.x * (P.y * Q.y) = Q.x * P.x * (Q.y * P.y) := by grind
  refine Pt.eq ?_ ?_
  · show sx C P Q = sx C Q P
    unfold sx
    rw [e]; congr 1; grind
  · show sy C P Q = sy C Q P
    unfold sy
    rw [e]; congr 1; grind

theorem add_zero (C : Crv F) (P : Pt C) : add C P (zero C) = P := by
  have h1 := sx_eq C P (zero C)
  have h2 := sy_eq C P (zero C)
  refine Pt.eq ?_ ?_
  · show sx C P (zero C) = P.x
    simp only [zero] at h1 ⊢
    grind
  · show sy C P (zero C) = P.y
    simp only [zero] at h2 ⊢
    grind
theorem zero_add (C : Crv F) (P : Pt C) : add C (zero C) P = P := by rw [add_comm, add_zero]

theorem add_neg (C : Crv F) (P : Pt C) : add C P (neg C P) = zero C := by
  have h1 := sx_eq C P (neg C P)
  have h2 := sy_eq C P (neg C P)
  have n1 := C.plus_ne P (neg C P)
  have n2 := C.minus_ne P (neg C P)
  have on := P.on
  refine Pt.eq ?_ ?_
  · show sx C P (neg C P) = 0
    refine C.cancel n1 ?_
    rw [h1]
    clear h1 h2 n1 n2
    simp only [neg]
    grind
  · show sy C P (neg C P) = 1
    refine C.cancel n2 ?_
    rw [h2]
    clear h1 h2 n1 n2
    simp only [neg]
    grind

set_option maxHeartbeats 4000000 in
theorem assoc_x (d x1 y1 x2 y2 x3 y3 : F) (e1 : x1*x1+y1*y1 = 1+d*(x1*x1*(y1*y1))) (e2 : x2*x2+y2*y2 = 1+d*(x2*x2*(y2*y2))) (e3 : x3*x3+y3*y3 = 1+d*(x3*x3*(y3*y3))) :
    ((x1*y2+y1*x2)*(1-d*(x1*x2*(y1*y2)))*y3+(y1*y2-x1*x2)*(1+d*(x1*x2*(y1*y2)))*x3)*((1-d*(x2*x3*(y2*y3)))*(1+d*(x2*x3*(y2*y3)))+d*(x1*y1*((x2*y3+y2*x3)*(y2*y3-x2*x3))))
    = (x1*((y2*y3-x2*x3)*(1+d*(x2*x3*(y2*y3))))+y1*((x2*y3+y2*x3)*(1-d*(x2*x3*(y2*y3)))))*((1-d*(x1*x2*(y1*y2)))*(1+d*(x1*x2*(y1*y2)))+d*((x1*y2+y1*x2)*(y1*y2-x1*x2)*(x3*y3))) := by grind
set_option maxHeartbeats 4000000 in
theorem assoc_y (d x1 y1 x2 y2 x3 y3 : F) (e1 : x1*x1+y1*y1 = 1+d*(x1*x1*(y1*y1))) (e2 : x2*x2+y2*y2 = 1+d*(x2*x2*(y2*y2))) (e3 : x3*x3+y3*y3 = 1+d*(x3*x3*(y3*y3))) :
    ((y1*y2-x1*x2)*(1+d*(x1*x2*(y1*y2)))*y3-(x1*y2+y1*x2)*(1-d*(x1*x2*(y1*y2)))*x3)*((1-d*(x2*x3*(y2*y3)))*(1+d*(x2*x3*(y2*y3)))-d*(x1*y1*((x2*y3+y2*x3)*(y2*y3-x2*x3))))
    = (y1*((y2*y3-x2*x3)*(1+d*(x2*x3*(y2*y3))))-x1*((x2*y3+y2*x3)*(1-d*(x2*x3*(y2*y3)))))*((1-d*(x1*x2*(y1*y2)))*(1+d*(x1*x2*(y1*y2)))-d*((x1*y2+y1*x2)*(y1*y2-x1*x2)*(x3*y3))) := by grind

theorem asc1 {A d X Y a b G H : F} (h : A * (1 + d * (X * a * (Y * b))) = X * b + Y * a) : A * ((1 + d * (X * a * (Y * b))) * (G * H)) = X * G * H * b + Y * H * G * a := by grind
theorem asc2 {B d U V a b G H : F} (h : B * (1 + d * (a * U * (b * V))) = a * V + b * U) : B * ((1 + d * (a * U * (b * V))) * (G * H)) = a * (V * H * G) + b * (U * G * H) := by grind
theorem asc4 {A d X Y a b G H : F} (h : A * (1 - d * (X * a * (Y * b))) = Y * b - X * a) : A * ((1 - d * (X * a * (Y * b))) * (G * H)) = Y * H * G * b - X * G * H * a := by grind
theorem asc5 {B d U V a b G H : F} (h : B * (1 - d * (a * U * (b * V))) = b * V - a * U) : B * ((1 - d * (a * U * (b * V))) * (G * H)) = b * (V * H * G) - a * (U * G * H) := by grind
theorem asc3 {A B D1 D2 : F} (h : A * D1 * D2 = B * D2 * D1) : A * (D1 * D2) = B * (D1 * D2) := by grind

theorem add_assoc (C : Crv F) (P Q R : Pt C) : add C (add C P Q) R = add C P (add C Q R) := by
  have hx := sx_eq C P Q
  have hy := sy_eq C P Q
  have kx := sx_eq C Q R
  have ky := sy_eq C Q R
  have gx := sx_eq C (add C P Q) R
  have gy := sy_eq C (add C P Q) R
  have fx := sx_eq C P (add C Q R)
  have fy := sy_eq C P (add C Q R)
  have n1 := C.plus_ne P Q
  have n2 := C.minus_ne P Q
  have n3 := C.plus_ne Q R
  have n4 := C.minus_ne Q R
  have n5 := C.plus_ne (add C P Q) R
  have n6 := C.minus_ne (add C P Q) R
  have n7 := C.plus_ne P (add C Q R)
  have n8 := C.minus_ne P (add C Q R)
  have ax := assoc_x C.d P.x P.y Q.x Q.y R.x R.y P.on Q.on R.on
  have ay := assoc_y C.d P.x P.y Q.x Q.y R.x R.y P.on Q.on R.on
  have c12x : (add C P Q).x = sx C P Q := rfl
  have c12y : (add C P Q).y = sy C P Q := rfl
  have c23x : (add C Q R).x = sx C Q R := rfl
  have c23y : (add C Q R).y = sy C Q R := rfl
  rw [c12x, c12y] at gx gy n5 n6
  rw [c23x, c23y] at fx fy n7 n8
  rw [← hx, ← hy, ← kx, ← ky] at ax ay
  refine Pt.eq ?_ ?_
  · show sx C (add C P Q) R = sx C P (add C Q R)
    generalize sx C (add C P Q) R = A at *
    generalize sx C P (add C Q R) = B at *
    generalize sx C P Q = X at *
    generalize sy C P Q = Y at *
    generalize sx C Q R = U at *
    generalize sy C Q R = V at *
    generalize 1 + C.d * (P.x * Q.x * (P.y * Q.y)) = G at *
    generalize 1 - C.d * (P.x * Q.x * (P.y * Q.y)) = H at *
    generalize 1 + C.d * (Q.x * R.x * (Q.y * R.y)) = G2 at *
    generalize 1 - C.d * (Q.x * R.x * (Q.y * R.y)) = H2 at *
    refine C.cancel (C.mul_ne (C.mul_ne n5 (C.mul_ne n1 n2)) (C.mul_ne n7 (C.mul_ne n3 n4))) ?_
    have s1 : A * ((1 + C.d * (X * R.x * (Y * R.y))) * (G * H)) = X * G * H * R.y + Y * H * G * R.x := asc1 gx
    have s2 : B * ((1 + C.d * (P.x * U * (P.y * V))) * (G2 * H2)) = P.x * (V * H2 * G2) + P.y * (U * G2 * H2) := asc2 fx
    clear gx gy fx fy
    have s3 : H * G + C.d * (X * G * (Y * H) * (R.x * R.y)) = (1 + C.d * (X * R.x * (Y * R.y))) * (G * H) := by grind
    have s4 : H2 * G2 + C.d * (P.x * P.y * (U * G2 * (V * H2))) = (1 + C.d * (P.x * U * (P.y * V))) * (G2 * H2) := by grind
    rw [s3, s4, ← s1, ← s2] at ax
    exact asc3 ax
  · show sy C (add C P Q) R = sy C P (add C Q R)
    generalize sy C (add C P Q) R = A at *
    generalize sy C P (add C Q R) = B at *
    generalize sx C P Q = X at *
    generalize sy C P Q = Y at *
    generalize sx C Q R = U at *
    generalize sy C Q R = V at *
    generalize 1 + C.d * (P.x * Q.x * (P.y * Q.y)) = G at *
    generalize 1 - C.d * (P.x * Q.x * (P.y * Q.y)) = H at *
    generalize 1 + C.d * (Q.x * R.x * (Q.y * R.y)) = G2 at *
    generalize 1 - C.d * (Q.x * R.x * (Q.y * R.y)) = H2 at *
    refine C.cancel (C.mul_ne (C.mul_ne n6 (C.mul_ne n1 n2)) (C.mul_ne n8 (C.mul_ne n3 n4))) ?_
    have s1 : A * ((1 - C.d * (X * R.x * (Y * R.y))) * (G * H)) = Y * H * G * R.y - X * G * H * R.x := asc4 gy
    have s2 : B * ((1 - C.d * (P.x * U * (P.y * V))) * (G2 * H2)) = P.y * (V * H2 * G2) - P.x * (U * G2 * H2) := asc5 fy
    clear gx gy fx fy
    have s3 : H * G - C.d * (X * G * (Y * H) * (R.x * R.y)) = (1 - C.d * (X * R.x * (Y * R.y))) * (G * H) := by grind
    have s4 : H2 * G2 - C.d * (P.x * P.y * (U * G2 * (V * H2))) = (1 - C.d * (P.x * U * (P.y * V))) * (G2 * H2) := by grind
    rw [s3, s4, ← s1, ← s2] at ay
    exact asc3 ay

/-! ### multiples -/
def smul (C : Crv F) : Nat → Pt C → Pt C
  | 0, _ => zero C
  | n + 1, P => add C (smul C n P) P
theorem smul_add (C : Crv F) (P : Pt C) (a : Nat) : ∀ b, smul C (a + b) P = add C (smul C a P) (smul C b P)
  | 0 => (add_zero C _).symm
  | b + 1 => by
    show add C (smul C (a + b) P) P = add C (smul C a P) (add C (smul C b P) P)
    rw [smul_add C P a b, add_assoc]
theorem smul_mul (C : Crv F) (P : Pt C) (n : Nat) : ∀ m, smul C (m * n) P = smul C m (smul C n P)
  | 0 => by rw [Nat.zero_mul]; rfl
  | m + 1 => by
    rw [Nat.succ_mul, smul_add, smul_mul C P n m]
    rfl
theorem smul_one (C : Crv F) (P : Pt C) : smul C 1 P = P := zero_add C P
end K12
namespace K12
open Lean.Grind
variable {F : Type} [CommRing F]
/-! ### the ladder over a field -/
def dblF (c : F) (p : F × F) : F × F :=
  let a := (p.1 + p.2) * (p.1 + p.2)
  let b := (p.1 - p.2) * (p.1 - p.2)
  let e := a - b
  (a * b, e * (a + c * e))
def daddF (u : F) (p q : F × F) : F × F :=
  let r := (q.1 - q.2) * (p.1 + p.2)
  let t := (q.1 + q.2) * (p.1 - p.2)
  ((r + t) * (r + t), u * ((r - t) * (r - t)))
def ladF (c u : F) (n : Nat) : Nat → (F × F) × (F × F)
  | 0 => ((1, 0), (u, 1))
  | j + 1 =>
    let s := ladF c u n j
    if (n / 2 ^ (254 - j)) % 2 = 0 then (dblF c s.1, daddF u s.1 s.2) else (daddF u s.1 s.2, dblF c s.2)
def lowF (c u : F) (n : Nat) : F × F := (ladF c u n 255).1

/-- which curve: s is 1 (the curve) or -1 (its twist) -/
structure Md (C : Crv F) (c s : F) : Prop where
  ss : s * s = 1
  cc : ∃ z, C.d * (1 + z) = z ∧ (1 + 2 * c) * s = 1 + 2 * z

def Rep (C : Crv F) (s : F) (p : F × F) (P : Pt C) : Prop := ∃ k, k ≠ 0 ∧ p.1 = k * (1 + P.y) ∧ s * p.2 = k * (1 - P.y)

theorem dbl_r1 {d z k x y Y X Z c s : F} (on : x * x + y * y = 1 + d * (x * x * (y * y))) (hz : d * (1 + z) = z)
    (hY : Y * (1 - d * (x * x * (y * y))) = y * y - x * x) (h1 : X = k * (1 + y)) (h2 : s * Z = k * (1 - y)) (ss : s * s = 1) :
    (X + Z) * (X + Z) * ((X - Z) * (X - Z)) = 8 * (k * k * k * k) * ((1 - d * (x * x * (y * y))) * (1 - d * (y * y))) * (1 + z) * (1 + Y) := by
  have e1 : (X + Z) * (X + Z) * ((X - Z) * (X - Z)) = (X * X - (s * Z) * (s * Z)) * (X * X - (s * Z) * (s * Z)) := by
    clear h1 h2 hY on hz
    grind
  rw [e1, h1, h2]
  have e2 : ((1 - d * (x * x * (y * y))) + (y * y - x * x)) * (1 - d * (y * y)) * (1 + z) = 2 * (y * y) := by
    clear e1 h1 h2 ss hY
    grind
  have e3 : 8 * (k * k * k * k) * ((1 - d * (x * x * (y * y))) * (1 - d * (y * y))) * (1 + z) * (1 + Y)
      = 8 * (k * k * k * k) * (((1 - d * (x * x * (y * y))) + Y * (1 - d * (x * x * (y * y)))) * (1 - d * (y * y)) * (1 + z)) := by
    clear e1 e2 h1 h2 ss hY on hz
    grind
  rw [e3, hY, e2]
  clear e1 e2 e3 h1 h2 ss hY on hz
  grind

theorem dbl_r2 {d z k x y Y X Z c s : F} (on : x * x + y * y = 1 + d * (x * x * (y * y))) (hz : d * (1 + z) = z)
    (hY : Y * (1 - d * (x * x * (y * y))) = y * y - x * x) (h1 : X = k * (1 + y)) (h2 : s * Z = k * (1 - y)) (ss : s * s = 1) (hc : (1 + 2 * c) * s = 1 + 2 * z) :
    s * (((X + Z) * (X + Z) - (X - Z) * (X - Z)) * ((X + Z) * (X + Z) + c * ((X + Z) * (X + Z) - (X - Z) * (X - Z))))
      = 8 * (k * k * k * k) * ((1 - d * (x * x * (y * y))) * (1 - d * (y * y))) * (1 + z) * (1 - Y) := by
  have e1 : s * (((X + Z) * (X + Z) - (X - Z) * (X - Z)) * ((X + Z) * (X + Z) + c * ((X + Z) * (X + Z) - (X - Z) * (X - Z))))
      = 4 * (X * (s * Z)) * (X * X + (s * Z) * (s * Z) + 2 * ((1 + 2 * c) * s * (X * (s * Z)))) := by
    clear h1 h2 hY on hz hc
    grind
  rw [e1, hc, h1, h2]
  have e2 : ((1 - d * (x * x * (y * y))) - (y * y - x * x)) * (1 - d * (y * y)) * (1 + z) = 2 * (1 - y * y) * (1 + z - z * (y * y)) := by
    clear e1 h1 h2 ss hY hc
    grind
  have e3 : 8 * (k * k * k * k) * ((1 - d * (x * x * (y * y))) * (1 - d * (y * y))) * (1 + z) * (1 - Y)
      = 8 * (k * k * k * k) * (((1 - d * (x * x * (y * y))) - Y * (1 - d * (x * x * (y * y)))) * (1 - d * (y * y)) * (1 + z)) := by
    clear e1 e2 h1 h2 ss hY on hz hc
    grind
  rw [e3, hY, e2]
  clear e1 e2 e3 h1 h2 ss hY on hz hc
  grind

theorem one_z_ne (C : Crv F) {z : F} (hz : C.d * (1 + z) = z) : 1 + z ≠ 0 := fun h => by
  have := C.one_ne
  have e : z = 0 := by rw [← hz, h]; grind
  grind

theorem four_ne (C : Crv F) : (4 : F) ≠ 0 := fun h => C.mul_ne C.two C.two (by grind)
theorem eight_ne (C : Crv F) : (8 : F) ≠ 0 := fun h => C.mul_ne C.two (four_ne C) (by grind)
theorem sixteen_ne (C : Crv F) : (16 : F) ≠ 0 := fun h => C.mul_ne C.two (eight_ne C) (by grind)

theorem dbl_rep (C : Crv F) {c s : F} (M : Md C c s) {p : F × F} {P : Pt C} (h : Rep C s p P) : Rep C s (dblF c p) (add C P P) := by
  obtain ⟨k, hk, h1, h2⟩ := h
  obtain ⟨z, hz, hc⟩ := M.cc
  have hY := sy_eq C P P
  refine ⟨8 * (k * k * k * k) * ((1 - C.d * (P.x * P.x * (P.y * P.y))) * (1 - C.d * (P.y * P.y))) * (1 + z), ?_, ?_, ?_⟩
  · exact C.mul_ne (C.mul_ne (C.mul_ne (eight_ne C) (C.mul_ne (C.mul_ne (C.mul_ne hk hk) hk) hk)) (C.mul_ne (C.minus_ne P P) (C.ry_ne _))) (one_z_ne C hz)
  · exact dbl_r1 (c := c) P.on hz hY h1 h2 M.ss
  · exact dbl_r2 P.on hz hY h1 h2 M.ss hc

/-- the sum of two points whose difference is known -/
theorem add_r0 {d z x2 y2 x3 y3 : F} (e2 : x2 * x2 + y2 * y2 = 1 + d * (x2 * x2 * (y2 * y2))) (e3 : x3 * x3 + y3 * y3 = 1 + d * (x3 * x3 * (y3 * y3))) (hz : d * (1 + z) = z) :
    ((1 - d * (x2 * x3 * (y2 * y3))) + (y2 * y3 - x2 * x3)) * ((1 + d * (x2 * x3 * (y2 * y3))) + (y2 * y3 + x2 * x3)) * ((1 - d * (y2 * y2)) * (1 - d * (y3 * y3))) * (1 + z)
      = (y2 + y3) * (y2 + y3) * (1 - d * ((y2 * y3) * (y2 * y3))) := by grind
theorem add_r0' {d z x2 y2 x3 y3 : F} (e2 : x2 * x2 + y2 * y2 = 1 + d * (x2 * x2 * (y2 * y2))) (e3 : x3 * x3 + y3 * y3 = 1 + d * (x3 * x3 * (y3 * y3))) (hz : d * (1 + z) = z) :
    ((1 - d * (x2 * x3 * (y2 * y3))) - (y2 * y3 - x2 * x3)) * ((1 + d * (x2 * x3 * (y2 * y3))) - (y2 * y3 + x2 * x3)) * ((1 - d * (y2 * y2)) * (1 - d * (y3 * y3))) * (1 + z)
      = (y2 - y3) * (y2 - y3) * (1 - d * ((y2 * y3) * (y2 * y3))) := by grind

theorem add_rep (C : Crv F) {c s u : F} (M : Md C c s) {p q : F × F} {P B : Pt C} (hu : u ≠ 0) (hB : Rep C s (u, 1) B) (hp : Rep C s p P) (hq : Rep C s q (add C P B)) :
    Rep C s (daddF u p q) (add C P (add C P B)) := by
  obtain ⟨k0, hk0, b1, b2⟩ := hB
  obtain ⟨k, hk, p1, p2⟩ := hp
  obtain ⟨l, hl, q1, q2⟩ := hq
  obtain ⟨z, hz, hc⟩ := M.cc
  have ss := M.ss
  generalize hS : add C P B = S at *
  -- the difference
  have hD : add C S (neg C P) = B := by rw [← hS, add_comm C P B, add_assoc, add_neg, add_zero]
  have hy5 := sy_eq C P S
  have hy1 : B.y * (1 + C.d * (P.x * S.x * (P.y * S.y))) = P.y * S.y + P.x * S.x := by
    have h := sy_eq C S (neg C P)
    have e : sy C S (neg C P) = B.y := by rw [← hD]; rfl
    rw [e] at h
    have ex : (neg C P).x = -P.x := rfl
    have ey : (neg C P).y = P.y := rfl
    rw [ex, ey] at h
    clear hy5 hD hS hz hc e ex ey p1 p2 q1 q2 b1 b2 ss
    grind
  have b1' : u = k0 * (1 + B.y) := b1
  have b2' : s = k0 * (1 - B.y) := by
    have : s * 1 = k0 * (1 - B.y) := b2
    rw [← this]; grind
  have n1 := C.minus_ne P S
  have n2 := C.plus_ne P S
  have n3 := C.ry_ne P.y
  have n4 := C.ry_ne S.y
  have n5 := C.ry_ne (P.y * S.y)
  have n6 := one_z_ne C hz
  have n7 : 1 + B.y ≠ 0 := fun h => hu (by rw [b1', h]; grind)
  have hi := C.mul _ n5
  have hin := C.inv_ne n5
  have r0 := add_r0 P.on S.on hz
  have r1 := add_r0' P.on S.on hz
  rw [← hy5, ← hy1] at r0 r1
  have ey : (add C P S).y = sy C P S := rfl
  refine ⟨16 * (k * k) * (l * l) * ((1 - C.d * (P.x * S.x * (P.y * S.y))) * (1 + C.d * (P.x * S.x * (P.y * S.y)))) * ((1 - C.d * (P.y * P.y)) * (1 - C.d * (S.y * S.y))) * (1 + z) * C.inv (1 - C.d * ((P.y * S.y) * (P.y * S.y))) * (1 + B.y), ?_, ?_, ?_⟩
  · exact C.mul_ne (C.mul_ne (C.mul_ne (C.mul_ne (C.mul_ne (C.mul_ne (C.mul_ne (sixteen_ne C) (C.mul_ne hk hk)) (C.mul_ne hl hl)) (C.mul_ne n1 n2)) (C.mul_ne n3 n4)) n6) hin) n7
  · rw [ey]
    show ((q.1 - q.2) * (p.1 + p.2) + (q.1 + q.2) * (p.1 - p.2)) * ((q.1 - q.2) * (p.1 + p.2) + (q.1 + q.2) * (p.1 - p.2)) = _
    have g1 : ((q.1 - q.2) * (p.1 + p.2) + (q.1 + q.2) * (p.1 - p.2)) * ((q.1 - q.2) * (p.1 + p.2) + (q.1 + q.2) * (p.1 - p.2))
        = 4 * ((q.1 * p.1 - (s * q.2) * (s * p.2)) * (q.1 * p.1 - (s * q.2) * (s * p.2))) := by
      clear r0 r1 hi hin p1 p2 q1 q2 b1 b2 b1' b2' hy1 hy5 hz hc hD hS
      grind
    rw [g1, p1, p2, q1, q2]
    clear g1 r1 p1 p2 q1 q2 b1 b2 b1' b2' hy1 hy5 hz hc hD hS ey ss
    generalize C.inv (1 - C.d * (P.y * S.y * (P.y * S.y))) = i at *
    generalize sy C P S = Y at *
    generalize 1 - C.d * (P.x * S.x * (P.y * S.y)) = G at *
    generalize 1 + C.d * (P.x * S.x * (P.y * S.y)) = H at *
    generalize (1 - C.d * (P.y * P.y)) * (1 - C.d * (S.y * S.y)) = E at *
    generalize 1 - C.d * (P.y * S.y * (P.y * S.y)) = W at *
    generalize 1 + z = z1 at *
    have t : 16 * (k * k) * (l * l) * (G * H) * E * z1 * i * (1 + B.y) * (1 + Y) = 16 * (k * k) * (l * l) * i * ((G + Y * G) * (H + B.y * H) * E * z1) := by
      clear r0 hi
      grind
    rw [t, r0]
    clear t r0
    grind
  · rw [ey]
    show s * (u * (((q.1 - q.2) * (p.1 + p.2) - (q.1 + q.2) * (p.1 - p.2)) * ((q.1 - q.2) * (p.1 + p.2) - (q.1 + q.2) * (p.1 - p.2)))) = _
    have g1 : s * (u * (((q.1 - q.2) * (p.1 + p.2) - (q.1 + q.2) * (p.1 - p.2)) * ((q.1 - q.2) * (p.1 + p.2) - (q.1 + q.2) * (p.1 - p.2))))
        = s * u * 4 * ((q.1 * (s * p.2) - (s * q.2) * p.1) * (q.1 * (s * p.2) - (s * q.2) * p.1)) := by
      clear r0 r1 hi hin p1 p2 q1 q2 b1 b2 b1' b2' hy1 hy5 hz hc hD hS
      grind
    have g2 : s * u * (1 - B.y) = 1 + B.y := by
      have : k0 * (s * u * (1 - B.y)) = k0 * (1 + B.y) := by
        rw [← b1']
        have : k0 * (s * u * (1 - B.y)) = s * u * (k0 * (1 - B.y)) := by
          clear r0 r1 hi hin p1 p2 q1 q2 b1 b2 b1' b2' hy1 hy5 hz hc hD hS g1
          grind
        rw [this, ← b2']
        clear r0 r1 hi hin p1 p2 q1 q2 b1 b2 b1' b2' hy1 hy5 hz hc hD hS g1
        grind
      exact C.cancel hk0 (by rw [CommSemiring.mul_comm, this, CommSemiring.mul_comm])
    rw [g1, p1, p2, q1, q2]
    rw [← g2]
    clear g1 r0 p1 p2 q1 q2 b1 b2 b1' b2' hy1 hy5 hz hc hD hS ey ss g2
    generalize C.inv (1 - C.d * (P.y * S.y * (P.y * S.y))) = i at *
    generalize sy C P S = Y at *
    generalize 1 - C.d * (P.x * S.x * (P.y * S.y)) = G at *
    generalize 1 + C.d * (P.x * S.x * (P.y * S.y)) = H at *
    generalize (1 - C.d * (P.y * P.y)) * (1 - C.d * (S.y * S.y)) = E at *
    generalize 1 - C.d * (P.y * S.y * (P.y * S.y)) = W at *
    generalize 1 + z = z1 at *
    have t : 16 * (k * k) * (l * l) * (G * H) * E * z1 * i * (s * u * (1 - B.y)) * (1 - Y) = 16 * (k * k) * (l * l) * i * (s * u) * ((G - Y * G) * (H - B.y * H) * E * z1) := by
      clear r1 hi
      grind
    rw [t, r1]
    clear t r1
    grind

theorem bit_step {n j : Nat} (hj : j < 255) : n / 2 ^ (255 - (j + 1)) = 2 * (n / 2 ^ (255 - j)) + (n / 2 ^ (254 - j)) % 2 := by
  have e1 : 255 - (j + 1) = 254 - j := by omega
  have e2 : 255 - j = (254 - j) + 1 := by omega
  rw [e1, e2, Nat.pow_succ, ← Nat.div_div_eq_div_mul]
  omega

theorem lad_rep (C : Crv F) {c s u : F} (M : Md C c s) {B : Pt C} (hu : u ≠ 0) (hB : Rep C s (u, 1) B) {n : Nat} (hn : n < 2 ^ 255) :
    ∀ j, j ≤ 255 → Rep C s (ladF c u n j).1 (smul C (n / 2 ^ (255 - j)) B) ∧ Rep C s (ladF c u n j).2 (smul C (n / 2 ^ (255 - j) + 1) B)
  | 0, _ => by
    have e : n / 2 ^ (255 - 0) = 0 := Nat.div_eq_of_lt hn
    rw [e]
    refine ⟨⟨C.inv 2, C.inv_ne C.two, ?_, ?_⟩, ?_⟩
    · have := C.mul 2 C.two
      show (1 : F) = C.inv 2 * (1 + 1)
      grind
    · show s * 0 = C.inv 2 * (1 - 1)
      grind
    · rw [smul_one]; exact hB
  | j + 1, hj => by
    obtain ⟨h1, h2⟩ := lad_rep C M hu hB hn j (by omega)
    have hb := bit_step (n := n) (j := j) (by omega)
    generalize hm : n / 2 ^ (255 - j) = m at *
    have d1 := dbl_rep C M h1
    have d2 := dbl_rep C M h2
    have a1 := add_rep C M hu hB h1 h2
    have f1 : add C (smul C m B) (smul C m B) = smul C (2 * m) B := by rw [← smul_add]; congr 1; omega
    have f2 : add C (smul C (m + 1) B) (smul C (m + 1) B) = smul C (2 * m + 2) B := by rw [← smul_add]; congr 1; omega
    have f3 : add C (smul C m B) (add C (smul C m B) B) = smul C (2 * m + 1) B := by
      show add C (smul C m B) (smul C (m + 1) B) = _
      rw [← smul_add]; congr 1; omega
    rw [f1] at d1
    rw [f2] at d2
    rw [f3] at a1
    unfold ladF
    by_cases h : (n / 2 ^ (254 - j)) % 2 = 0
    · simp only [h, if_true]
      rw [hb, h]
      exact ⟨d1, a1⟩
    · have h' : (n / 2 ^ (254 - j)) % 2 = 1 := by omega
      simp only [h, if_false]
      rw [hb, h']
      exact ⟨a1, d2⟩
theorem low_rep (C : Crv F) {c s u : F} (M : Md C c s) {B : Pt C} (hu : u ≠ 0) (hB : Rep C s (u, 1) B) {n : Nat} (hn : n < 2 ^ 255) : Rep C s (lowF c u n) (smul C n B) := by
  have h := (lad_rep C M hu hB hn 255 (Nat.le_refl _)).1
  have e : n / 2 ^ (255 - 255) = n := by simp
  rw [e] at h
  exact h
end K12
namespace K12
open Lean.Grind
variable {F : Type} [CommRing F]
def affF (inv : F → F) (p : F × F) : F := p.1 * inv p.2
/-- the u-coordinate up to the sign s -/
def val (C : Crv F) (P : Pt C) : F := (1 + P.y) * C.inv (1 - P.y)

theorem aff_val (C : Crv F) {s : F} (ss : s * s = 1) {p : F × F} {P : Pt C} (h : Rep C s p P) : affF C.inv p = s * val C P := by
  obtain ⟨k, hk, h1, h2⟩ := h
  unfold affF val
  by_cases hy : 1 - P.y = 0
  · have h0 : p.2 = 0 := by
      have : s * (s * p.2) = 0 := by rw [h2, hy]; grind
      grind
    rw [h0, hy, C.inv0]
    grind
  · have hp : p.2 ≠ 0 := fun e => by
      rw [e] at h2
      exact C.mul_ne hk hy (by grind)
    have m1 := C.mul _ hy
    have m2 := C.mul _ hp
    refine C.cancel (C.mul_ne hk (C.mul_ne hp hy)) ?_
    generalize C.inv (1 - P.y) = i at *
    generalize C.inv p.2 = j at *
    generalize hw : 1 - P.y = w at *
    have e1 : p.1 * j * (k * (p.2 * w)) = p.1 * (k * w) := by
      clear h1 h2 hw
      grind
    have e2 : s * ((1 + P.y) * i) * (k * (p.2 * w)) = (k * (1 + P.y)) * (s * p.2) := by
      clear h1 h2 hw e1
      grind
    rw [e1, e2, h1, h2]

theorem aff_same (C : Crv F) {s : F} (ss : s * s = 1) {p q : F × F} {P : Pt C} (h : Rep C s p P) (g : Rep C s q P) : affF C.inv p = affF C.inv q :=
  (aff_val C ss h).trans (aff_val C ss g).symm

theorem rep_aff (C : Crv F) {s : F} (ss : s * s = 1) {p : F × F} {P : Pt C} (h : Rep C s p P) (hv : affF C.inv p ≠ 0) : Rep C s (affF C.inv p, 1) P := by
  have e := aff_val C ss h
  rw [e] at hv ⊢
  have hs : s ≠ 0 := fun z => hv (by rw [z]; grind)
  have hy : 1 - P.y ≠ 0 := fun z => hv (by unfold val; rw [z, C.inv0]; grind)
  refine ⟨s * C.inv (1 - P.y), C.mul_ne hs (C.inv_ne hy), ?_, ?_⟩
  · show s * val C P = _
    unfold val
    grind
  · show s * 1 = s * C.inv (1 - P.y) * (1 - P.y)
    have := C.mul _ hy
    grind

theorem ymd (C : Crv F) : 1 - C.d ≠ 0 := by
  have h := C.ry_ne 1
  intro z
  apply h
  grind

theorem x_of_aff (C : Crv F) {s : F} (ss : s * s = 1) {p : F × F} {P : Pt C} (h : Rep C s p P) (hv : affF C.inv p = 0) : P.x = 0 := by
  have e := aff_val C ss h
  rw [hv] at e
  have hs : s ≠ 0 := fun z => C.one_ne (by rw [← ss, z]; grind)
  have hval : val C P = 0 := C.dom e.symm hs
  have hyy : P.y * P.y = 1 := by
    by_cases hy : 1 - P.y = 0
    · grind
    · have : 1 + P.y = 0 := by
        have hv' : C.inv (1 - P.y) * (1 + P.y) = 0 := by rw [CommSemiring.mul_comm]; exact hval
        exact C.dom hv' (C.inv_ne hy)
      grind
  have on := P.on
  rw [hyy] at on
  have hx : P.x * P.x = 0 := C.dom (a := 1 - C.d) (by grind) (ymd C)
  by_cases h0 : P.x = 0
  · exact h0
  · exact C.dom hx h0

theorem aff_of_x (C : Crv F) {s : F} (ss : s * s = 1) {p : F × F} {P : Pt C} (h : Rep C s p P) (hx : P.x = 0) : affF C.inv p = 0 := by
  rw [aff_val C ss h]
  have on := P.on
  rw [hx] at on
  have hyy : (1 - P.y) * (1 + P.y) = 0 := by grind
  by_cases hy : 1 - P.y = 0
  · unfold val
    rw [hy, C.inv0]
    grind
  · have := C.dom hyy hy
    unfold val
    rw [this]
    grind

theorem smul_x (C : Crv F) {P : Pt C} (hx : P.x = 0) : ∀ m, (smul C m P).x = 0
  | 0 => rfl
  | m + 1 => by
    show sx C (smul C m P) P = 0
    have := smul_x C hx m
    unfold sx
    rw [this, hx]
    grind

/-! ### the point 0 -/
theorem lad0 (c : F) (n : Nat) : ∀ j, (ladF c 0 n j).1.2 = 0 ∧ ((ladF c 0 n j).2.1 = 0 ∨ (ladF c 0 n j).2.2 = 0)
  | 0 => ⟨rfl, .inl rfl⟩
  | j + 1 => by
    obtain ⟨h1, h2⟩ := lad0 c n j
    unfold ladF
    generalize ladF c 0 n j = t at *
    have d1 : (dblF c t.1).2 = 0 := by
      show ((t.1.1 + t.1.2) * (t.1.1 + t.1.2) - (t.1.1 - t.1.2) * (t.1.1 - t.1.2)) * _ = 0
      rw [h1]
      grind
    have d2 : (dblF c t.2).2 = 0 := by
      show ((t.2.1 + t.2.2) * (t.2.1 + t.2.2) - (t.2.1 - t.2.2) * (t.2.1 - t.2.2)) * _ = 0
      rcases h2 with h2 | h2 <;> (rw [h2]; grind)
    have a1 : (daddF 0 t.1 t.2).2 = 0 := by
      show (0 : F) * _ = 0
      grind
    by_cases h : (n / 2 ^ (254 - j)) % 2 = 0
    · simp only [h, if_true]
      exact ⟨d1, .inr a1⟩
    · simp only [h, if_false]
      exact ⟨a1, .inr d2⟩

theorem aff_z (inv : F → F) (h0 : inv 0 = 0) {p : F × F} (h : p.2 = 0) : affF inv p = 0 := by
  unfold affF
  rw [h, h0]
  grind
theorem aff0 (inv : F → F) (h0 : inv 0 = 0) (c : F) (n : Nat) : affF inv (lowF c 0 n) = 0 := aff_z inv h0 (lad0 c n 255).1
theorem affd0 (inv : F → F) (h0 : inv 0 = 0) (c : F) (n : Nat) : affF inv (dblF c (lowF c 0 n)) = 0 := by
  refine aff_z inv h0 ?_
  have h1 : (lowF c 0 n).2 = 0 := (lad0 c n 255).1
  generalize lowF c 0 n = t at *
  show ((t.1 + t.2) * (t.1 + t.2) - (t.1 - t.2) * (t.1 - t.2)) * _ = 0
  rw [h1]
  grind

/-! ### the laws where there is a point -/
theorem comp_pt (C : Crv F) {c s u : F} (M : Md C c s) {B : Pt C} (hu : u ≠ 0) (hB : Rep C s (u, 1) B) {m n : Nat} (hm : m < 2 ^ 255) (hn : n < 2 ^ 255) (hmn : m * n < 2 ^ 255) :
    affF C.inv (lowF c (affF C.inv (lowF c u n)) m) = affF C.inv (lowF c u (m * n)) := by
  have r1 := low_rep C M hu hB hn
  have r2 := low_rep C M hu hB hmn
  rw [smul_mul] at r2
  by_cases hv : affF C.inv (lowF c u n) = 0
  · rw [hv, aff0 C.inv C.inv0]
    exact (aff_of_x C M.ss r2 (smul_x C (x_of_aff C M.ss r1 hv) m)).symm
  · have r3 := rep_aff C M.ss r1 hv
    exact aff_same C M.ss (low_rep C M hv r3 hm) r2

theorem one_pt (C : Crv F) {c s u : F} (M : Md C c s) {B : Pt C} (hu : u ≠ 0) (hB : Rep C s (u, 1) B) : affF C.inv (lowF c u 1) = u := by
  have r := low_rep C M hu hB (n := 1) (by decide)
  rw [smul_one] at r
  rw [aff_same C M.ss r hB]
  have := C.mul 1 C.one_ne
  show u * C.inv 1 = u
  grind

theorem zero_pt (C : Crv F) {c s u : F} (M : Md C c s) {B : Pt C} (hu : u ≠ 0) (hB : Rep C s (u, 1) B) : affF C.inv (lowF c u 0) = 0 := by
  have r := low_rep C M hu hB (n := 0) (by decide)
  exact aff_of_x C M.ss r rfl

theorem dbl_pt (C : Crv F) {c s u : F} (M : Md C c s) {B : Pt C} (hu : u ≠ 0) (hB : Rep C s (u, 1) B) {m : Nat} (hm : 2 * m < 2 ^ 255) :
    affF C.inv (dblF c (lowF c u m)) = affF C.inv (lowF c u (2 * m)) := by
  have r1 := dbl_rep C M (low_rep C M hu hB (n := m) (by omega))
  have r2 := low_rep C M hu hB hm
  rw [← smul_add] at r1
  have e : m + m = 2 * m := by omega
  rw [e] at r1
  exact aff_same C M.ss r1 r2

/-- v^2 of the curve -/
def fF (c u : F) : F := u * (u * u + (4 * c + 2) * u + 1)

theorem side_r {d z x y t : F} (on : x * x + y * y = 1 + d * (x * x * (y * y))) (hz : d * (1 + z) = z) (ht : t * (1 - y) = 1 + y) :
    t * (t * t + (4 * z + 2) * t + 1) * (x * x) * ((1 - y) * (1 - y) * (1 - y)) = (4 * z + 4) * (t * t) * ((1 - y) * (1 - y) * (1 - y)) := by
  have e1 : t * (t * t + (4 * z + 2) * t + 1) * (x * x) * ((1 - y) * (1 - y) * (1 - y))
      = (t * (1 - y)) * ((t * (1 - y)) * (t * (1 - y)) + (4 * z + 2) * (t * (1 - y)) * (1 - y) + (1 - y) * (1 - y)) * (x * x) := by
    clear on hz ht
    grind
  have e2 : (4 * z + 4) * (t * t) * ((1 - y) * (1 - y) * (1 - y)) = (4 * z + 4) * (t * (1 - y)) * (t * (1 - y)) * (1 - y) := by
    clear on hz ht e1
    grind
  rw [e1, e2, ht]
  clear e1 e2 ht
  have e3 : (1 + z - z * (y * y)) * (x * x) = (1 + z) * (1 - y * y) := by grind
  have e4 : (1 + y) * ((1 + y) * (1 + y) + (4 * z + 2) * (1 + y) * (1 - y) + (1 - y) * (1 - y)) * (x * x) = 4 * (1 + y) * ((1 + z - z * (y * y)) * (x * x)) := by
    clear on hz e3
    grind
  rw [e4, e3]
  clear on hz e3 e4
  grind

theorem side_eq (C : Crv F) {c s : F} (ss : s * s = 1) {z : F} (hz : C.d * (1 + z) = z) (hc : (1 + 2 * c) * s = 1 + 2 * z) {v : F} {P : Pt C} (hP : Rep C s (v, 1) P) :
    fF c v * (P.x * P.x) = s * (4 * z + 4) * (v * v) := by
  obtain ⟨k, hk, h1, h2⟩ := hP
  have h1 : v = k * (1 + P.y) := h1
  have h2 : s * 1 = k * (1 - P.y) := h2
  have hs : s ≠ 0 := fun z => C.one_ne (by rw [← ss, z]; grind)
  have hy : 1 - P.y ≠ 0 := fun z => hs (by
    rw [z] at h2
    grind)
  have ht : s * v * (1 - P.y) = 1 + P.y := by
    have : s * v * (1 - P.y) = s * (1 + P.y) * (k * (1 - P.y)) := by
      rw [h1]
      clear h1 h2 hz hc ss
      grind
    rw [this, ← h2]
    clear this h1 h2 hz hc
    grind
  have r := side_r P.on hz ht
  have r' := C.cancel (C.mul_ne (C.mul_ne hy hy) hy) r
  have e1 : fF c v = s * (s * v * (s * v * (s * v) + (4 * z + 2) * (s * v) + 1)) := by
    unfold fF
    have : s * (s * v * (s * v * (s * v) + (4 * z + 2) * (s * v) + 1)) = (s * s) * v * ((s * s) * (v * v) + 2 * ((1 + 2 * z) * s) * v + 1) := by
      clear r r' ht h1 h2 hz hc ss
      grind
    rw [this, ← hc]
    have : (1 + 2 * c) * s * s = 1 + 2 * c := by
      clear this r r' ht h1 h2 hz hc
      grind
    rw [this, ss]
    clear this r r' ht h1 h2 hz hc ss
    grind
  have e2 : fF c v * (P.x * P.x) = s * (s * v * (s * v * (s * v) + (4 * z + 2) * (s * v) + 1) * (P.x * P.x)) := by
    rw [e1]
    clear e1 r r' ht h1 h2 hz hc ss
    grind
  rw [e2, r']
  clear e1 e2 r r' ht h1 h2 hz hc
  grind

theorem x_ne (C : Crv F) {s v : F} (ss : s * s = 1) {P : Pt C} (hP : Rep C s (v, 1) P) (hv : v ≠ 0) : P.x ≠ 0 := fun h => by
  have := aff_of_x C ss hP h
  have h1 := C.mul 1 C.one_ne
  apply hv
  have e : v * C.inv 1 = 0 := this
  grind

theorem side_pt (C : Crv F) {c s u : F} (M : Md C c s) {B : Pt C} (hu : u ≠ 0) (hB : Rep C s (u, 1) B) {n : Nat} (hn : n < 2 ^ 255) (hv : affF C.inv (lowF c u n) ≠ 0) :
    ∃ a b, a ≠ 0 ∧ b ≠ 0 ∧ fF c (affF C.inv (lowF c u n)) * (a * a) = fF c u * (b * b) := by
  have r1 := rep_aff C M.ss (low_rep C M hu hB hn) hv
  obtain ⟨z, hz, hc⟩ := M.cc
  have e1 := side_eq C M.ss hz hc r1
  have e2 := side_eq C M.ss hz hc hB
  have n1 := x_ne C M.ss r1 hv
  have n2 := x_ne C M.ss hB hu
  generalize affF C.inv (lowF c u n) = v at *
  refine ⟨(smul C n B).x * u, B.x * v, C.mul_ne n1 hu, C.mul_ne n2 hv, ?_⟩
  have f1 : fF c v * ((smul C n B).x * u * ((smul C n B).x * u)) = fF c v * ((smul C n B).x * (smul C n B).x) * (u * u) := by
    clear e1 e2 hz hc
    grind
  have f2 : fF c u * (B.x * v * (B.x * v)) = fF c u * (B.x * B.x) * (v * v) := by
    clear e1 e2 hz hc f1
    grind
  rw [f1, f2, e1, e2]
  clear e1 e2 hz hc f1 f2
  grind

/-! ### every u but 0 has a point on one of the two curves -/
structure Fd (F : Type) [CommRing F] (inv : F → F) (c : F) : Prop where
  two : (2 : F) ≠ 0
  mul : ∀ a : F, a ≠ 0 → a * inv a = 1
  inv0 : inv 0 = 0
  c1 : 1 + c ≠ 0
  root : ∃ r : F, r * r = 1 + c
  cns : ∀ a b : F, a * a = c * (b * b) → b = 0
  cls : ∀ z : F, ∃ w, w * w = z ∨ w * w = c * z

theorem Fd.c0 {inv : F → F} {c : F} (D : Fd F inv c) : c ≠ 0 := fun h => by
  have h1 : (0 : F) * 0 = c * (1 * 1) := by rw [h]; grind
  have := D.cns _ _ h1
  exact D.two (by grind)
theorem Fd.dom {inv : F → F} {c : F} (D : Fd F inv c) {a b : F} (h : a * b = 0) (ha : a ≠ 0) : b = 0 := by
  have := D.mul a ha
  grind
theorem Fd.mul_ne {inv : F → F} {c : F} (D : Fd F inv c) {a b : F} (ha : a ≠ 0) (hb : b ≠ 0) : a * b ≠ 0 := fun h => hb (D.dom h ha)
theorem Fd.cancel {inv : F → F} {c : F} (D : Fd F inv c) {a b e : F} (hc : e ≠ 0) (h : a * e = b * e) : a = b := by
  have := D.mul e hc
  grind
theorem Fd.f_ne {inv : F → F} {c : F} (D : Fd F inv c) {u : F} (hu : u ≠ 0) : fF c u ≠ 0 := fun h => by
  obtain ⟨r, hr⟩ := D.root
  have hg := D.dom h hu
  have e : (u + 2 * c + 1) * (u + 2 * c + 1) = c * (2 * r * (2 * r)) := by
    have : c * (2 * r * (2 * r)) = 4 * c * (r * r) := by
      clear hg hr h
      grind
    rw [this, hr]
    clear this hr h
    grind
  have := D.cns _ _ e
  have h2 := D.dom this D.two
  apply D.c1
  rw [← hr, h2]
  clear hg hr h e this h2
  grind

def crv1 {inv : F → F} {c : F} (D : Fd F inv c) : Crv F where
  inv := inv
  d := c * inv (1 + c)
  two := D.two
  mul := D.mul
  inv0 := D.inv0
  ns := fun a b h => by
    obtain ⟨r, hr⟩ := D.root
    refine D.cns (r * a) b ?_
    have m := D.mul _ D.c1
    have e1 : r * a * (r * a) = r * r * (a * a) := by
      clear h m hr
      grind
    rw [e1, hr, h]
    have e2 : (1 + c) * (c * inv (1 + c) * (b * b)) = ((1 + c) * inv (1 + c)) * (c * (b * b)) := by
      clear h m hr e1
      grind
    rw [e2, m]
    clear h m hr e1 e2
    grind

def crv2 {inv : F → F} {c : F} (D : Fd F inv c) : Crv F where
  inv := inv
  d := (1 + c) * inv c
  two := D.two
  mul := D.mul
  inv0 := D.inv0
  ns := fun a b h => by
    obtain ⟨r, hr⟩ := D.root
    have m := D.mul _ D.c0
    have hra : r ≠ 0 := fun z => D.c1 (by rw [← hr, z]; grind)
    have e : r * b * (r * b) = c * (a * a) := by
      rw [h]
      have e1 : c * ((1 + c) * inv c * (b * b)) = (c * inv c) * ((1 + c) * (b * b)) := by
        clear h m hr
        grind
      rw [e1, m, ← hr]
      clear h m hr e1
      grind
    have ha := D.cns _ _ e
    rw [ha] at e
    have e' : r * b * (r * b) = 0 := by rw [e]; grind
    by_cases hb : r * b = 0
    · exact D.dom hb hra
    · exact absurd (D.dom e' hb) hb

theorem d1_eq {inv : F → F} {c : F} (D : Fd F inv c) : (crv1 D).d * (1 + c) = c := by
  show c * inv (1 + c) * (1 + c) = c
  have m := D.mul _ D.c1
  have : c * inv (1 + c) * (1 + c) = c * ((1 + c) * inv (1 + c)) := by
    clear m
    grind
  rw [this, m]
  clear m this
  grind
theorem d2_eq {inv : F → F} {c : F} (D : Fd F inv c) : (crv2 D).d * c = 1 + c := by
  show (1 + c) * inv c * c = 1 + c
  have m := D.mul _ D.c0
  have : (1 + c) * inv c * c = (1 + c) * (c * inv c) := by
    clear m
    grind
  rw [this, m]
  clear m this
  grind
theorem md1 {inv : F → F} {c : F} (D : Fd F inv c) : Md (crv1 D) c 1 := ⟨by grind, c, d1_eq D, by grind⟩
theorem md2 {inv : F → F} {c : F} (D : Fd F inv c) : Md (crv2 D) c (-1) := ⟨by grind, -(1 + c), by have := d2_eq D; grind, by grind⟩

theorem on1 {d c r u w i j x y : F} (hd : d * (1 + c) = c) (hr : r * r = 1 + c) (hw : w * w = u * (u * u + (4 * c + 2) * u + 1)) (hx : x * w = 2 * r * u) (hy : y * (u + 1) = u - 1) :
    (x * x + y * y) * ((1 + c) * ((u + 1) * (u + 1)) * (w * w)) = (1 + d * (x * x * (y * y))) * ((1 + c) * ((u + 1) * (u + 1)) * (w * w)) := by
  have e1 : (x * x + y * y) * ((1 + c) * ((u + 1) * (u + 1)) * (w * w)) = (x * w) * (x * w) * ((1 + c) * ((u + 1) * (u + 1))) + (y * (u + 1)) * (y * (u + 1)) * (1 + c) * (w * w) := by
    clear hd hr hw hx hy
    grind
  have e2 : (1 + d * (x * x * (y * y))) * ((1 + c) * ((u + 1) * (u + 1)) * (w * w)) = (1 + c) * ((u + 1) * (u + 1)) * (w * w) + d * (1 + c) * ((x * w) * (x * w) * ((y * (u + 1)) * (y * (u + 1)))) := by
    clear hd hr hw hx hy e1
    grind
  rw [e1, e2, hx, hy, hd, hw]
  have e3 : 2 * r * u * (2 * r * u) = 4 * (r * r) * (u * u) := by
    clear hd hr hw hx hy e1 e2
    grind
  rw [e3, hr]
  clear hd hr hw hx hy e1 e2 e3
  grind

theorem on2 {d c u w x y : F} (hd : d * c = 1 + c) (hw : w * w = c * (u * (u * u + (4 * c + 2) * u + 1))) (hx : x * w = 2 * c * u) (hy : y * (u - 1) = u + 1) :
    (x * x + y * y) * (c * ((u - 1) * (u - 1)) * (w * w)) = (1 + d * (x * x * (y * y))) * (c * ((u - 1) * (u - 1)) * (w * w)) := by
  have e1 : (x * x + y * y) * (c * ((u - 1) * (u - 1)) * (w * w)) = (x * w) * (x * w) * (c * ((u - 1) * (u - 1))) + (y * (u - 1)) * (y * (u - 1)) * c * (w * w) := by
    clear hd hw hx hy
    grind
  have e2 : (1 + d * (x * x * (y * y))) * (c * ((u - 1) * (u - 1)) * (w * w)) = c * ((u - 1) * (u - 1)) * (w * w) + d * c * ((x * w) * (x * w) * ((y * (u - 1)) * (y * (u - 1)))) := by
    clear hd hw hx hy e1
    grind
  rw [e1, e2, hx, hy, hd, hw]
  clear hd hw hx hy e1 e2
  grind

theorem rep1 {u h y : F} (h2 : 2 * h = 1) (hy : y * (u + 1) = u - 1) : u = (u + 1) * h * (1 + y) ∧ (1 : F) * 1 = (u + 1) * h * (1 - y) := by
  constructor
  · have : (u + 1) * h * (1 + y) = h * ((u + 1) + y * (u + 1)) := by
      clear h2 hy
      grind
    rw [this, hy]
    clear this hy
    grind
  · have : (u + 1) * h * (1 - y) = h * ((u + 1) - y * (u + 1)) := by
      clear h2 hy
      grind
    rw [this, hy]
    clear this hy
    grind
theorem rep2 {u h y : F} (h2 : 2 * h = 1) (hy : y * (u - 1) = u + 1) : u = (u - 1) * h * (1 + y) ∧ (-1 : F) * 1 = (u - 1) * h * (1 - y) := by
  constructor
  · have : (u - 1) * h * (1 + y) = h * ((u - 1) + y * (u - 1)) := by
      clear h2 hy
      grind
    rw [this, hy]
    clear this hy
    grind
  · have : (u - 1) * h * (1 - y) = h * ((u - 1) - y * (u - 1)) := by
      clear h2 hy
      grind
    rw [this, hy]
    clear this hy
    grind

theorem div_mul {inv : F → F} {c : F} (D : Fd F inv c) {a b : F} (hb : b ≠ 0) : a * inv b * b = a := by
  have m := D.mul _ hb
  have : a * inv b * b = a * (b * inv b) := by
    clear m
    grind
  rw [this, m]
  clear m this
  grind

theorem some_pt {inv : F → F} {c : F} (D : Fd F inv c) {u : F} (hu : u ≠ 0) : ∃ (C : Crv F) (s : F) (B : Pt C), C.inv = inv ∧ Md C c s ∧ Rep C s (u, 1) B := by
  have hf := D.f_ne hu
  obtain ⟨r, hr⟩ := D.root
  have hr0 : r ≠ 0 := fun z => D.c1 (by rw [← hr, z]; grind)
  have i2 := D.inv0
  have m2 := D.mul 2 D.two
  have hi2 : inv 2 ≠ 0 := fun z => by
    rw [z] at m2
    exact D.two (by grind)
  obtain ⟨w, hw | hw⟩ := D.cls (fF c u)
  · have hw0 : w ≠ 0 := fun z => hf (by rw [← hw, z]; grind)
    have hu1 : u + 1 ≠ 0 := fun z => by
      have e : u = -1 := by grind
      have e2 : w * w = c * (2 * 2) := by
        rw [hw, e]
        unfold fF
        clear hw hr m2 z e hf
        grind
      exact D.two (D.cns _ _ e2)
    have hx := div_mul D (a := 2 * r * u) hw0
    have hy := div_mul D (a := u - 1) hu1
    have on := D.cancel (D.mul_ne (D.mul_ne D.c1 (D.mul_ne hu1 hu1)) (D.mul_ne hw0 hw0)) (on1 (i := r) (j := r) (d1_eq D) hr hw hx hy)
    have rr := rep1 m2 hy
    exact ⟨crv1 D, 1, ⟨_, _, on⟩, rfl, md1 D, (u + 1) * inv 2, D.mul_ne hu1 hi2, rr.1, rr.2⟩
  · have hw0 : w ≠ 0 := fun z => D.mul_ne D.c0 hf (by rw [← hw, z]; grind)
    have hu1 : u - 1 ≠ 0 := fun z => by
      have e : u = 1 := by grind
      have e2 : w * w = c * (2 * r * (2 * r)) := by
        rw [hw, e]
        have : c * (2 * r * (2 * r)) = c * (4 * (r * r)) := by
          clear hw hr m2 z e hf
          grind
        rw [this, hr]
        unfold fF
        clear hw hr m2 z e hf this
        grind
      exact D.mul_ne D.two hr0 (D.cns _ _ e2)
    have hx := div_mul D (a := 2 * c * u) hw0
    have hy := div_mul D (a := u + 1) hu1
    have on := D.cancel (D.mul_ne (D.mul_ne D.c0 (D.mul_ne hu1 hu1)) (D.mul_ne hw0 hw0)) (on2 (d2_eq D) hw hx hy)
    have rr := rep2 m2 hy
    exact ⟨crv2 D, -1, ⟨_, _, on⟩, rfl, md2 D, (u - 1) * inv 2, D.mul_ne hu1 hi2, rr.1, rr.2⟩

/-! ### the laws, for every u -/
theorem comp_all {inv : F → F} {c : F} (D : Fd F inv c) (u : F) {m n : Nat} (hm : m < 2 ^ 255) (hn : n < 2 ^ 255) (hmn : m * n < 2 ^ 255) :
    affF inv (lowF c (affF inv (lowF c u n)) m) = affF inv (lowF c u (m * n)) := by
  by_cases hu : u = 0
  · subst hu
    rw [aff0 inv D.inv0, aff0 inv D.inv0, aff0 inv D.inv0]
  · obtain ⟨C, s, B, rfl, M, hB⟩ := some_pt D hu
    exact comp_pt C M hu hB hm hn hmn
theorem one_all {inv : F → F} {c : F} (D : Fd F inv c) (u : F) : affF inv (lowF c u 1) = u := by
  by_cases hu : u = 0
  · subst hu
    exact aff0 inv D.inv0 c 1
  · obtain ⟨C, s, B, rfl, M, hB⟩ := some_pt D hu
    exact one_pt C M hu hB
theorem zero_all {inv : F → F} {c : F} (D : Fd F inv c) (u : F) : affF inv (lowF c u 0) = 0 := by
  by_cases hu : u = 0
  · subst hu
    exact aff0 inv D.inv0 c 0
  · obtain ⟨C, s, B, rfl, M, hB⟩ := some_pt D hu
    exact zero_pt C M hu hB
theorem dbl_all {inv : F → F} {c : F} (D : Fd F inv c) (u : F) {m : Nat} (hm : 2 * m < 2 ^ 255) : affF inv (dblF c (lowF c u m)) = affF inv (lowF c u (2 * m)) := by
  by_cases hu : u = 0
  · subst hu
    rw [aff0 inv D.inv0, affd0 inv D.inv0]
  · obtain ⟨C, s, B, rfl, M, hB⟩ := some_pt D hu
    exact dbl_pt C M hu hB hm
theorem side_all {inv : F → F} {c : F} (D : Fd F inv c) (u : F) {n : Nat} (hn : n < 2 ^ 255) (hv : affF inv (lowF c u n) ≠ 0) :
    ∃ a b, a ≠ 0 ∧ b ≠ 0 ∧ fF c (affF inv (lowF c u n)) * (a * a) = fF c u * (b * b) := by
  by_cases hu : u = 0
  · subst hu
    exact absurd (aff0 inv D.inv0 c n) hv
  · obtain ⟨C, s, B, rfl, M, hB⟩ := some_pt D hu
    exact side_pt C M hu hB hn hv
end K12
namespace K12
open Lean.Grind
/-! ### the field of the integers modulo 2^255 - 19, and the program's numbers -/
def PN : Nat := 57896044618658097711785492504343953926634992332820282019728792003956564819949
def PI : Int := 57896044618658097711785492504343953926634992332820282019728792003956564819949
theorem PN_PI : (PN : Int) = PI := rfl
theorem PI_pos : 0 < PI := by decide +kernel
theorem PN_chk : chk PN 2 255 [2, 2, 3, 65147, 74058212732561358302231226437062788676166966415465897661863160754340907] = true := by decide +kernel
theorem PN_list : ∀ q ∈ [2, 2, 3, 65147, 74058212732561358302231226437062788676166966415465897661863160754340907], Pr q :=
  List.forall_mem_cons.mpr ⟨pr2, List.forall_mem_cons.mpr ⟨pr2, List.forall_mem_cons.mpr ⟨pr3, List.forall_mem_cons.mpr ⟨pr65147, List.forall_mem_cons.mpr ⟨pr74058212732561358302231226437062788676166966415465897661863160754340907, fun _ h => nomatch h⟩⟩⟩⟩⟩
theorem fermatN {y : Nat} (hy : y % PN ≠ 0) : y ^ (PN - 1) % PN = 1 % PN :=
  have o := chk_out PN_chk
  lucas_fermat _ o.1 PN_list o.2.1 o.2.2.1 o.2.2.2 y hy

theorem PN_big : 121667 < PN := by decide +kernel
theorem PN_h : PN - 1 = (PN - 1) / 2 + (PN - 1) / 2 := by decide +kernel
theorem PN_q : (PN - 1) / 2 = (PN - 1) / 4 + (PN - 1) / 4 := by decide +kernel
theorem PN_e : (PN + 3) / 8 + (PN + 3) / 8 = (PN - 1) / 4 + 1 := by decide +kernel
theorem PN_1 : PN - 1 = PN - 2 + 1 := by decide +kernel
theorem PN_2 : PN - 2 = PN - 3 + 1 := by decide +kernel

variable {F : Type} [CommRing F]
def cst (a : Int) : F := @Int.cast F Ring.intCast a
theorem cst_add (a b : Int) : (cst (a + b) : F) = cst a + cst b := Ring.intCast_add a b
theorem cst_sub (a b : Int) : (cst (a - b) : F) = cst a - cst b := Ring.intCast_sub a b
theorem cst_mul (a b : Int) : (cst (a * b) : F) = cst a * cst b := Ring.intCast_mul a b
theorem cst_neg (a : Int) : (cst (-a) : F) = -cst a := Ring.intCast_neg a
theorem cst_pow (a : Int) (n : Nat) : (cst (a ^ n) : F) = cst a ^ n := Ring.intCast_pow a n
theorem cst_one : (cst 1 : F) = 1 := Ring.intCast_one
theorem cst_zero : (cst 0 : F) = 0 := Ring.intCast_zero
theorem cst_two : (cst 2 : F) = 2 := Ring.intCast_ofNat 2
theorem cst_four : (cst 4 : F) = 4 := Ring.intCast_ofNat 4

/-- what is asked of F: the integers modulo the prime -/
class Fp (F : Type) [CommRing F] : Prop where
  ext : ∀ a b : Int, (cst a : F) = cst b ↔ a % PI = b % PI
  sur : ∀ z : F, ∃ a : Int, cst a = z

variable [Fp F]
theorem cst_mod (a : Int) : (cst (a % PI) : F) = cst a := (Fp.ext _ _).mpr (Int.emod_emod_of_dvd a (Int.dvd_refl PI))

theorem one_ne0 : (1 : F) ≠ 0 := fun h => by
  rw [← cst_one, ← cst_zero] at h
  exact absurd ((Fp.ext (F := F) 1 0).mp h) (by decide +kernel)
theorem two_ne0 : (2 : F) ≠ 0 := fun h => by
  rw [← cst_two, ← cst_zero] at h
  exact absurd ((Fp.ext (F := F) 2 0).mp h) (by decide +kernel)

theorem fermat {z : F} (hz : z ≠ 0) : z ^ (PN - 1) = 1 := by
  obtain ⟨a, rfl⟩ := Fp.sur z
  obtain ⟨y, hy⟩ : ∃ y : Nat, a % PI = (y : Int) := ⟨(a % PI).toNat, (Int.toNat_of_nonneg (Int.emod_nonneg _ (by have := PI_pos; omega))).symm⟩
  have e : (cst a : F) = cst (y : Int) := by rw [← hy, cst_mod]
  rw [e] at hz ⊢
  have hy0 : y % PN ≠ 0 := fun h => hz (by
    rw [← cst_zero]
    refine (Fp.ext _ _).mpr ?_
    rw [Int.zero_emod, ← PN_PI]
    have : ((y % PN : Nat) : Int) = 0 := by rw [h]; rfl
    rw [← this, Int.natCast_emod])
  have hf := fermatN hy0
  rw [← cst_pow, ← cst_one]
  refine (Fp.ext _ _).mpr ?_
  rw [← PN_PI]
  have : ((y ^ (PN - 1) % PN : Nat) : Int) = ((1 % PN : Nat) : Int) := by rw [hf]
  rw [Int.natCast_emod, Int.natCast_emod, Int.natCast_pow] at this
  exact this

def ivF (z : F) : F := z ^ (PN - 2)
theorem iv_mul (z : F) (hz : z ≠ 0) : z * ivF z = 1 := by
  have h := fermat hz
  rw [PN_1, Semiring.pow_succ, CommSemiring.mul_comm] at h
  exact h
theorem iv_zero : ivF (0 : F) = 0 := by
  unfold ivF
  rw [PN_2, Semiring.pow_succ, Semiring.mul_zero]

theorem dom0 {a b : F} (h : a * b = 0) (ha : a ≠ 0) : b = 0 := by
  have e : b = ivF a * (a * b) := by
    have := iv_mul a ha
    generalize ivF a = i at *
    grind
  rw [e, h, Semiring.mul_zero]
theorem pm_one {w : F} (h : w * w = 1) : w = 1 ∨ w = -1 := by
  by_cases h1 : w = 1
  · exact .inl h1
  · refine .inr ?_
    have e : (w - 1) * (w + 1) = 0 := by grind
    have n : w - 1 ≠ 0 := fun z => h1 (by grind)
    have := dom0 e n
    grind

theorem eq_of (a b : Int) (h : a % PI = b % PI) : (cst a : F) = cst b := (Fp.ext _ _).mpr h

/-- a power of a written number -/
theorem cst_pm (a r : Nat) (n f : Nat) (hn : n < 2 ^ f) (h : pm PN f a n = r % PN) : (cst (a : Int) : F) ^ n = cst (r : Int) := by
  rw [← cst_pow]
  refine (Fp.ext _ _).mpr ?_
  rw [pm_eq PN f a n hn] at h
  rw [← PN_PI]
  have : ((a ^ n % PN : Nat) : Int) = ((r % PN : Nat) : Int) := by rw [h]
  rw [Int.natCast_emod, Int.natCast_emod, Int.natCast_pow] at this
  exact this

theorem pm_h : pm PN 255 121665 ((PN - 1) / 2) = (PN - 1) % PN := by decide +kernel
theorem h_lt : (PN - 1) / 2 < 2 ^ 255 := by decide +kernel

def cF : F := cst 121665
theorem c_h : (cF : F) ^ ((PN - 1) / 2) = -1 := by
  have h := cst_pm (F := F) 121665 (PN - 1) ((PN - 1) / 2) 255 h_lt pm_h
  have e1 : ((121665 : Nat) : Int) = 121665 := rfl
  rw [e1] at h
  unfold cF
  rw [h, ← cst_one, ← cst_neg]
  exact eq_of _ _ (by decide +kernel)

theorem sqrt_of {z : F} (h : z ^ ((PN - 1) / 2) = 1) : ∃ w : F, w * w = z := by
  rw [PN_q, Semiring.pow_add] at h
  have e : z ^ ((PN + 3) / 8) * z ^ ((PN + 3) / 8) = z ^ ((PN - 1) / 4) * z := by
    rw [← Semiring.pow_add, PN_e, Semiring.pow_succ]
  rcases pm_one h with h1 | h1
  · refine ⟨z ^ ((PN + 3) / 8), ?_⟩
    rw [e, h1, Semiring.one_mul]
  · have i2 : (cst 19681161376707505956807079304988542015446066515923890162744021073123829784752 : F) * cst 19681161376707505956807079304988542015446066515923890162744021073123829784752 = -1 := by
      rw [← cst_mul, ← cst_one, ← cst_neg]
      exact eq_of _ _ (by decide +kernel)
    refine ⟨cst 19681161376707505956807079304988542015446066515923890162744021073123829784752 * z ^ ((PN + 3) / 8), ?_⟩
    rw [h1] at e
    generalize (cst 19681161376707505956807079304988542015446066515923890162744021073123829784752 : F) = i at *
    generalize z ^ ((PN + 3) / 8) = y at *
    have t : i * y * (i * y) = (i * i) * (y * y) := by
      clear h h1 e i2
      grind
    rw [t, i2, e]
    clear t h h1 e i2
    grind

theorem fd : Fd F ivF cF where
  two := two_ne0
  mul := iv_mul
  inv0 := iv_zero
  c1 := fun h => by
    unfold cF at h
    rw [← cst_one, ← cst_add, ← cst_zero] at h
    exact absurd ((Fp.ext (F := F) _ _).mp h) (by decide +kernel)
  root := ⟨cst 53349024335595116287218880480235248380932224208407348260407321313250266849793, by
    unfold cF
    rw [← cst_mul, ← cst_one, ← cst_add]
    exact eq_of _ _ (by decide +kernel)⟩
  cns := fun a b h => by
    by_cases hb : b = 0
    · exact hb
    · exfalso
      have hc : (cF : F) ≠ 0 := fun z => by
        have := c_h (F := F)
        rw [z, show (PN - 1) / 2 = (PN - 3) / 2 + 1 by decide +kernel, Semiring.pow_succ, Semiring.mul_zero] at this
        have := one_ne0 (F := F)
        grind
      have ha : a ≠ 0 := fun z => by
        rw [z, Semiring.mul_zero] at h
        have := dom0 h.symm hc
        exact hb (dom0 this hb)
      have e1 : (a * a) ^ ((PN - 1) / 2) = 1 := by
        rw [CommSemiring.mul_pow, ← Semiring.pow_add, ← PN_h]
        exact fermat ha
      rw [h, CommSemiring.mul_pow, CommSemiring.mul_pow, ← Semiring.pow_add, ← PN_h, fermat hb, c_h] at e1
      have := two_ne0 (F := F)
      grind
  cls := fun z => by
    by_cases hz : z = 0
    · exact ⟨0, .inl (by rw [hz, Semiring.mul_zero])⟩
    · have h := fermat hz
      rw [PN_h, Semiring.pow_add] at h
      rcases pm_one h with h1 | h1
      · obtain ⟨w, hw⟩ := sqrt_of h1
        exact ⟨w, .inl hw⟩
      · have : (cF * z : F) ^ ((PN - 1) / 2) = 1 := by
          rw [CommSemiring.mul_pow, c_h, h1]
          grind
        obtain ⟨w, hw⟩ := sqrt_of this
        exact ⟨w, .inr hw⟩

/-! ### the program's functions over the integers -/
omit [CommRing F] [Fp F]
def aI (a b : Int) : Int := (a + b) % PI
def sI (a b : Int) : Int := (a - b) % PI
def mI (a b : Int) : Int := a * b % PI
@[irreducible] def powI (a : Int) (n : Nat) : Int := a ^ n % PI
def ivI (a : Int) : Int := powI a (PN - 2)
def chiI (a : Int) : Int := if powI a ((PN - 1) / 2) = PI - 1 then -1 else powI a ((PN - 1) / 2)
def dblI (p : Int × Int) : Int × Int :=
  let a := mI (aI p.1 p.2) (aI p.1 p.2)
  let b := mI (sI p.1 p.2) (sI p.1 p.2)
  let e := sI a b
  (mI a b, mI e (aI a (121665 * e)))
def daddI (p q : Int × Int) (u : Int) : Int × Int :=
  let r := mI (sI q.1 q.2) (aI p.1 p.2)
  let t := mI (aI q.1 q.2) (sI p.1 p.2)
  (mI (aI r t) (aI r t), mI u (mI (sI r t) (sI r t)))
def ladI (n : Nat) (u : Int) : Nat → (Int × Int) × (Int × Int)
  | 0 => ((1, 0), (u, 1))
  | j + 1 =>
    let s := ladI n u j
    if (n / 2 ^ (254 - j)) % 2 = 0 then (dblI s.1, daddI s.1 s.2 u) else (daddI s.1 s.2 u, dblI s.2)
@[irreducible] def lowI (n : Nat) (u : Int) : Int × Int := (ladI n u 255).1
theorem lowI_def (n : Nat) (u : Int) : lowI n u = (ladI n u 255).1 := by unfold lowI; rfl
theorem powI_def (a : Int) (n : Nat) : powI a n = a ^ n % PI := by unfold powI; rfl
def affI (p : Int × Int) : Int := mI p.1 (ivI p.2)
def curveI (u : Int) : Int := chiI (u * (u * u + 486662 * u + 1))

variable [CommRing F] [Fp F]
def cp (p : Int × Int) : F × F := (cst p.1, cst p.2)
theorem cst_aI (a b : Int) : (cst (aI a b) : F) = cst a + cst b := by unfold aI; rw [cst_mod, cst_add]
theorem cst_sI (a b : Int) : (cst (sI a b) : F) = cst a - cst b := by unfold sI; rw [cst_mod, cst_sub]
theorem cst_mI (a b : Int) : (cst (mI a b) : F) = cst a * cst b := by unfold mI; rw [cst_mod, cst_mul]
theorem cst_powI (a : Int) (n : Nat) : (cst (powI a n) : F) = cst a ^ n := by unfold powI; rw [cst_mod, cst_pow]
theorem cp_dbl (p : Int × Int) : (cp (dblI p) : F × F) = dblF cF (cp p) := by
  simp only [cp, dblI, dblF, cst_mI, cst_aI, cst_sI, cst_mul, cF]
theorem cp_dadd (p q : Int × Int) (u : Int) : (cp (daddI p q u) : F × F) = daddF (cst u) (cp p) (cp q) := by
  simp only [cp, daddI, daddF, cst_mI, cst_aI, cst_sI]
theorem cp_lad (n : Nat) (u : Int) : ∀ j, ((cp (ladI n u j).1, cp (ladI n u j).2) : (F × F) × (F × F)) = ladF cF (cst u) n j
  | 0 => by
    simp only [cp, ladI, ladF, cst_one, cst_zero]
  | j + 1 => by
    have ih := cp_lad n u j
    unfold ladI ladF
    rw [← ih]
    by_cases h : (n / 2 ^ (254 - j)) % 2 = 0
    · simp only [h, if_true, cp_dbl, cp_dadd]
    · simp only [h, if_false, cp_dbl, cp_dadd]
theorem cp_low (n : Nat) (u : Int) : (cp (lowI n u) : F × F) = lowF cF (cst u) n := by
  rw [lowI_def]
  exact congrArg Prod.fst (cp_lad n u 255)
theorem cst_aff (p : Int × Int) : (cst (affI p) : F) = affF ivF (cp p) := by
  simp only [affI, affF, cst_mI, ivI, cst_powI, cp, ivF]

omit [CommRing F] [Fp F]
theorem mI_in (a b : Int) : 0 ≤ mI a b ∧ mI a b < PI := ⟨Int.emod_nonneg _ (by have := PI_pos; omega), Int.emod_lt_of_pos _ PI_pos⟩
theorem powI_in (a : Int) (n : Nat) : 0 ≤ powI a n ∧ powI a n < PI := by
  rw [powI_def]
  exact ⟨Int.emod_nonneg _ (by have := PI_pos; omega), Int.emod_lt_of_pos _ PI_pos⟩
theorem affI_in (p : Int × Int) : 0 ≤ affI p ∧ affI p < PI := mI_in _ _
variable [CommRing F] [Fp F]
theorem cst_inj {a b : Int} (ha : 0 ≤ a ∧ a < PI) (hb : 0 ≤ b ∧ b < PI) (h : (cst a : F) = cst b) : a = b := by
  have := (Fp.ext a b).mp h
  rw [Int.emod_eq_of_lt ha.1 ha.2, Int.emod_eq_of_lt hb.1 hb.2] at this
  exact this

theorem compF (u : Int) {m n : Nat} (hm : m < 2 ^ 255) (hn : n < 2 ^ 255) (hmn : m * n < 2 ^ 255) : (cst (affI (lowI m (affI (lowI n u)))) : F) = cst (affI (lowI (m * n) u)) := by
  rw [cst_aff, cst_aff, cp_low, cp_low, cst_aff, cp_low]
  exact comp_all fd _ hm hn hmn
theorem oneF (u : Int) : (cst (affI (lowI 1 u)) : F) = cst u := by
  rw [cst_aff, cp_low]
  exact one_all fd _
theorem zeroF (u : Int) : (cst (affI (lowI 0 u)) : F) = cst 0 := by
  rw [cst_aff, cp_low, cst_zero]
  exact zero_all fd _
theorem dblF' (u : Int) {m : Nat} (hm : 2 * m < 2 ^ 255) : (cst (affI (dblI (lowI m u))) : F) = cst (affI (lowI (2 * m) u)) := by
  rw [cst_aff, cst_aff, cp_dbl, cp_low, cp_low]
  exact dbl_all fd _ hm
theorem cst_f (u : Int) : (cst (u * (u * u + 486662 * u + 1)) : F) = fF cF (cst u) := by
  have e : (486662 : Int) = 4 * 121665 + 2 := rfl
  rw [e]
  simp only [cst_mul, cst_add, cst_one, cst_two, cst_four, fF, cF]
theorem sideF (u : Int) {n : Nat} (hn : n < 2 ^ 255) (hv : affI (lowI n u) ≠ 0) :
    (cst (powI (affI (lowI n u) * (affI (lowI n u) * affI (lowI n u) + 486662 * affI (lowI n u) + 1)) ((PN - 1) / 2)) : F) = cst (powI (u * (u * u + 486662 * u + 1)) ((PN - 1) / 2)) := by
  have hv' : affF ivF (lowF (cF : F) (cst u) n) ≠ 0 := fun h => hv (by
    refine cst_inj (F := F) (affI_in _) ⟨Int.le_refl 0, PI_pos⟩ ?_
    rw [cst_aff, cp_low, cst_zero]
    exact h)
  obtain ⟨a, b, ha, hb, e⟩ := side_all (F := F) fd (cst u) hn hv'
  rw [cst_powI, cst_powI, cst_f, cst_f, cst_aff, cp_low]
  have e2 := congrArg (fun z => z ^ ((PN - 1) / 2)) e
  simp only [CommSemiring.mul_pow] at e2
  rw [← Semiring.pow_add, ← Semiring.pow_add, ← PN_h, fermat ha, fermat hb, Semiring.mul_one, Semiring.mul_one] at e2
  exact e2

/-! ### such a field is there -/
omit [CommRing F] [Fp F]
instance : NeZero PN := ⟨by decide +kernel⟩
theorem fin_ext (a b : Int) : (cst a : _root_.Fin PN) = cst b ↔ a % PI = b % PI := by
  rw [← PN_PI]
  exact IsCharP.intCast_ext_iff (α := _root_.Fin PN) PN
theorem fin_sur (z : _root_.Fin PN) : ∃ a : Int, cst a = z := by
  refine ⟨(z.val : Int), ?_⟩
  show @Int.cast (_root_.Fin PN) Ring.intCast ((z.val : Nat) : Int) = z
  rw [Ring.intCast_natCast]
  exact Fin.ofNat_val_eq_self z
instance : Fp (_root_.Fin PN) := ⟨fin_ext, fin_sur⟩

/-! ### the laws over the program's numbers -/
theorem comp_int (u : Int) {m n : Nat} (hm : m < 2 ^ 255) (hn : n < 2 ^ 255) (hmn : m * n < 2 ^ 255) : affI (lowI m (affI (lowI n u))) = affI (lowI (m * n) u) :=
  cst_inj (F := _root_.Fin PN) (affI_in _) (affI_in _) (compF u hm hn hmn)
theorem one_int {u : Int} (hu : 0 ≤ u ∧ u < PI) : affI (lowI 1 u) = u := cst_inj (F := _root_.Fin PN) (affI_in _) hu (oneF u)
theorem zero_int (u : Int) : affI (lowI 0 u) = 0 := cst_inj (F := _root_.Fin PN) (affI_in _) ⟨Int.le_refl 0, PI_pos⟩ (zeroF u)
theorem dbl_int (u : Int) {m : Nat} (hm : 2 * m < 2 ^ 255) : affI (dblI (lowI m u)) = affI (lowI (2 * m) u) := cst_inj (F := _root_.Fin PN) (affI_in _) (affI_in _) (dblF' u hm)
theorem side_int (u : Int) {n : Nat} (hn : n < 2 ^ 255) (hv : affI (lowI n u) ≠ 0) : curveI (affI (lowI n u)) = curveI u := by
  have e := cst_inj (F := _root_.Fin PN) (powI_in _ _) (powI_in _ _) (sideF u hn hv)
  unfold curveI chiI
  rw [e]
end K12
namespace K12
open PySem PySem.Spec PyProof.Rows L2
/-! ### the text -/
def topS (i : Nat) : Stmt := PySem.Challenge.pw_hushlink_k12_whole_ladder_multiplies.main.body.getD i (.Pass ⟨0, 0, 0, 0⟩)
abbrev sAdd : Stmt := topS 2
abbrev sSub : Stmt := topS 3
abbrev sMul : Stmt := topS 4
abbrev sPow : Stmt := topS 5
abbrev sInv : Stmt := topS 6
abbrev sChi : Stmt := topS 7
theorem scAdd : FnScope ["a", "b"] ["a", "b"] (defScope sAdd) := ⟨rfl, rfl, rfl, by decide +kernel, rfl, by decide +kernel, by decide +kernel⟩
theorem scSub : FnScope ["a", "b"] ["a", "b"] (defScope sSub) := ⟨rfl, rfl, rfl, by decide +kernel, rfl, by decide +kernel, by decide +kernel⟩
theorem scMul : FnScope ["a", "b"] ["a", "b"] (defScope sMul) := ⟨rfl, rfl, rfl, by decide +kernel, rfl, by decide +kernel, by decide +kernel⟩
theorem scPow : FnScope ["a", "n", "result", "square"] ["a", "n"] (defScope sPow) := ⟨rfl, rfl, rfl, by decide +kernel, rfl, by decide +kernel, by decide +kernel⟩
theorem scInv : FnScope ["a"] ["a"] (defScope sInv) := ⟨rfl, rfl, rfl, by decide +kernel, rfl, by decide +kernel, by decide +kernel⟩
theorem scChi : FnScope ["a", "value"] ["a"] (defScope sChi) := ⟨rfl, rfl, rfl, by decide +kernel, rfl, by decide +kernel, by decide +kernel⟩

theorem in_abs {a : Int} (h : 0 ≤ a ∧ a < PI) : a.natAbs < 2 ^ 256 := by
  have h1 : a < 2 ^ 255 := Int.lt_of_lt_of_le h.2 (by decide +kernel)
  have h2 := h.1
  omega

theorem relI (i : Int) (t : Tok) : RelV (.int i) (.int i t) := ⟨t, rfl⟩

section
variable {P : Program} {w : World} {K : PySem.W.Frag} {mg : Str → Option Value} {base : Heap}
/-- a def that may be called by its name -/
def Cal (P : Program) (w : World) (K : PySem.W.Frag) (mg : Str → Option Value) (base : Heap) (x : Str) (k : Nat) (ps : List Str) (sp : Sp) : Prop :=
  ∃ (f : Addr) (fd : FuncData), FnOk P w K mg base CX0 k f fd ps sp ∧ mg x = some (.ref f) ∧ PySem.W.keepIn K (.ref f) = true ∧ Binds K fd ps []

def spAdd : Sp := fun vs H Q _ => ∃ a b : Int, vs = [.int a, .int b] ∧ Q (.int (aI a b)) H
def spSub : Sp := fun vs H Q _ => ∃ a b : Int, vs = [.int a, .int b] ∧ Q (.int (sI a b)) H
def spMul : Sp := fun vs H Q _ => ∃ a b : Int, vs = [.int a, .int b] ∧ a.natAbs < 2 ^ 256 ∧ b.natAbs < 2 ^ 256 ∧ Q (.int (mI a b)) H

theorem ok_add {f : Addr} {fd : FuncData} {t : Tok} (F : Fun K "add" "add" sAdd f fd) (mP : mg "PRIME" = some (.int PI t)) : FnOk P w K mg base CX0 1 f fd ["a", "b"] spAdd := by
  refine F.ok scAdd (fun vs H Q E h => ?_) (fun cdv A outer s H vs Q E hr h => ?_)
  · obtain ⟨a, b, rfl, _⟩ := h
    rfl
  · obtain ⟨a, b, rfl, q⟩ := h
    exact ⟨_, pss_one (ps_ret (pe_op op_mod (pe_op op_add (pv 0) (pv 1)) (pe_glob rfl mP (relI _ _)))), _, rfl, _, rfl, _, _, rfl, rfl, _, _, rfl, rfl, PI_pos, q⟩
theorem ok_sub {f : Addr} {fd : FuncData} {t : Tok} (F : Fun K "subtract" "subtract" sSub f fd) (mP : mg "PRIME" = some (.int PI t)) : FnOk P w K mg base CX0 1 f fd ["a", "b"] spSub := by
  refine F.ok scSub (fun vs H Q E h => ?_) (fun cdv A outer s H vs Q E hr h => ?_)
  · obtain ⟨a, b, rfl, _⟩ := h
    rfl
  · obtain ⟨a, b, rfl, q⟩ := h
    exact ⟨_, pss_one (ps_ret (pe_op op_mod (pe_op op_sub (pv 0) (pv 1)) (pe_glob rfl mP (relI _ _)))), _, rfl, _, rfl, _, _, rfl, rfl, _, _, rfl, rfl, PI_pos, q⟩
theorem ok_mul {f : Addr} {fd : FuncData} {t : Tok} (F : Fun K "multiply" "multiply" sMul f fd) (mP : mg "PRIME" = some (.int PI t)) : FnOk P w K mg base CX0 1 f fd ["a", "b"] spMul := by
  refine F.ok scMul (fun vs H Q E h => ?_) (fun cdv A outer s H vs Q E hr h => ?_)
  · obtain ⟨a, b, rfl, _⟩ := h
    rfl
  · obtain ⟨a, b, rfl, ha, hb, q⟩ := h
    exact ⟨_, pss_one (ps_ret (pe_op op_mod (pe_op op_mulW (pv 0) (pv 1)) (pe_glob rfl mP (relI _ _)))), _, rfl, _, rfl, _, _, rfl, rfl, wide_mul ha hb (by decide) (by decide) (by decide), _, _, rfl, rfl, PI_pos, q⟩

/-! ### power -/
def spPow : Sp := fun vs H Q _ => ∃ (a : Int) (n : Nat), vs = [.int a, .int (n : Int)] ∧ Q (.int (powI a n)) H
theorem mulmod (a b : Int) : (a % PI) * b % PI = a * b % PI := by rw [Int.mul_emod, Int.emod_emod, ← Int.mul_emod]
theorem powmod (a : Int) : ∀ n : Nat, (a % PI) ^ n % PI = a ^ n % PI
  | 0 => by rw [Int.pow_zero, Int.pow_zero]
  | n + 1 => by
    rw [Int.pow_succ, Int.pow_succ, Int.mul_emod, powmod a n, Int.emod_emod, ← Int.mul_emod]
theorem pow_turn {r s : Int} {m : Nat} : (if m % 2 = 1 then r * s % PI else r) * (s * s % PI) ^ (m / 2) % PI = r * s ^ m % PI := by
  have h : ∀ x : Int, x * (s * s % PI) ^ (m / 2) % PI = x * s ^ (2 * (m / 2)) % PI := fun x => by
    rw [Int.mul_emod, powmod, ← Int.mul_emod, Int.mul_pow, ← Int.pow_add]
    have : m / 2 + m / 2 = 2 * (m / 2) := by omega
    rw [this]
  rw [h]
  by_cases h1 : m % 2 = 1
  · rw [if_pos h1, mulmod, Int.mul_assoc, Int.mul_comm s, ← Int.pow_succ]
    have : (2 * (m / 2)).succ = m := by omega
    rw [this]
  · rw [if_neg h1]
    have : 2 * (m / 2) = m := by omega
    rw [this]

theorem ok_pow {f : Addr} {fd : FuncData} {t : Tok} (F : Fun K "power" "power" sPow f fd) (mP : mg "PRIME" = some (.int PI t)) : FnOk P w K mg base CX0 1 f fd ["a", "n"] spPow := by
  refine F.ok scPow (fun vs H Q E h => ?_) (fun cdv A outer s H vs Q E hr h => ?_)
  · obtain ⟨a, n, rfl, _⟩ := h
    rfl
  · obtain ⟨a, n, rfl, q⟩ := h
    refine ⟨_, pss_cons (ps_set (i := 2) scPow.nd rfl (.inl rfl) pe_int)
      (pss_cons (ps_set (i := 3) scPow.nd rfl (.inl rfl) (pe_op op_mod (pv 0) (pe_glob rfl mP (relI _ _))))
      (pss_cons (ps_while PassesOwn.never (pt_cmpR op_gt (pv 1) pe_int (nomark _))
        (pss_cons (ps_if (pt_cmpR op_eq (pe_op op_odd (pv 1) pe_int) pe_int (nomark _))
            (pss_one (ps_set (i := 2) scPow.nd rfl (.inl rfl) (pe_op op_mod (pe_op op_mulW (pv 2) (pv 3)) (pe_glob rfl mP (relI _ _))))) pss_nil)
        (pss_cons (ps_set (i := 3) scPow.nd rfl (.inl rfl) (pe_op op_mod (pe_op op_mulW (pv 3) (pv 3)) (pe_glob rfl mP (relI _ _))))
        (pss_one (ps_set (i := 1) scPow.nd rfl (.inl rfl) (pe_op op_halfN (pv 1) pe_int))))))
      (pss_one (ps_ret (pv 2))))), ?_⟩
    refine ⟨_, rfl, _, _, rfl, rfl, PI_pos, ?_⟩
    refine ⟨fun m σ H' => ∃ r s : Int, σ = [some (.int a), some (.int (m : Int)), some (.int r), some (.int s)] ∧ H' = H ∧ (0 ≤ r ∧ r < PI) ∧ (0 ≤ s ∧ s < PI) ∧ r * s ^ m % PI = a ^ n % PI, ⟨n, 1, a % PI, rfl, rfl, by decide +kernel, ?_, ?_⟩, fun m σ H' hW => ?_⟩
    · exact ⟨Int.emod_nonneg _ (by decide +kernel), Int.emod_lt_of_pos _ PI_pos⟩
    · rw [Int.one_mul, powmod]
    · obtain ⟨r, s, rfl, rfl, hr1, hs1, hi⟩ := hW
      refine ⟨_, rfl, _, _, rfl, rfl, _, rfl, ite2 (fun e => ?_) (fun e => ?_)⟩
      · have hm : 0 < m := by
          have := of_decide_eq_true e
          omega
        refine ⟨fun σ' H'' => ∃ r s : Int, σ' = [some (.int a), some (.int ((m / 2 : Nat) : Int)), some (.int r), some (.int s)] ∧ H'' = H' ∧ (0 ≤ r ∧ r < PI) ∧ (0 ≤ s ∧ s < PI) ∧ r * s ^ (m / 2) % PI = a ^ n % PI, fun σ' H'' hN => ⟨m / 2, by omega, hN⟩, ?_⟩
        have hs2 : 0 ≤ s * s % PI ∧ s * s % PI < PI := ⟨Int.emod_nonneg _ (by decide +kernel), Int.emod_lt_of_pos _ PI_pos⟩
        have hr2 : 0 ≤ r * s % PI ∧ r * s % PI < PI := ⟨Int.emod_nonneg _ (by decide +kernel), Int.emod_lt_of_pos _ PI_pos⟩
        have ht := pow_turn (r := r) (s := s) (m := m)
        refine ⟨_, rfl, m, rfl, rfl, rfl, _, rfl, ite2 (fun e2 => ?_) (fun e2 => ?_)⟩
        · have h1 : m % 2 = 1 := by
            have := V.int.inj (of_decide_eq_true e2)
            omega
          rw [if_pos h1] at ht
          exact ⟨_, rfl, _, rfl, _, _, rfl, rfl, wide_mul (in_abs hr1) (in_abs hs1) (by decide) (by decide) (by decide), _, _, rfl, rfl, PI_pos, _, rfl, _, rfl, _, _, rfl, rfl, wide_mul (in_abs hs1) (in_abs hs1) (by decide) (by decide) (by decide), _, _, rfl, rfl, PI_pos, _, rfl, m, rfl, rfl, r * s % PI, s * s % PI, rfl, rfl, hr2, hs2, ht.trans hi⟩
        · have h1 : ¬ m % 2 = 1 := fun z => e2 (decide_eq_true (by rw [z]; rfl))
          rw [if_neg h1] at ht
          exact ⟨_, rfl, _, rfl, _, _, rfl, rfl, wide_mul (in_abs hs1) (in_abs hs1) (by decide) (by decide) (by decide), _, _, rfl, rfl, PI_pos, _, rfl, m, rfl, rfl, r, s * s % PI, rfl, rfl, hr1, hs2, ht.trans hi⟩
      · have hm : m = 0 := by
          have : ¬ ((m : Int) > 0) := fun z => e (decide_eq_true z)
          omega
        subst hm
        rw [Int.pow_zero, Int.mul_one, Int.emod_eq_of_lt hr1.1 hr1.2] at hi
        refine ⟨_, rfl, ?_⟩
        rw [hi, ← powI_def]
        exact q

/-! ### invert, square_class -/
def spInv : Sp := fun vs H Q _ => ∃ a : Int, vs = [.int a] ∧ Q (.int (ivI a)) H
def spChi : Sp := fun vs H Q _ => ∃ a : Int, vs = [.int a] ∧ Q (.int (chiI a)) H
theorem PI_2 : PI - 2 = ((PN - 2 : Nat) : Int) := by decide +kernel
theorem PI_h : (PI - 1) / 2 = (((PN - 1) / 2 : Nat) : Int) := by decide +kernel
theorem ok_inv {f : Addr} {fd : FuncData} {t : Tok} (F : Fun K "invert" "invert" sInv f fd) (mP : mg "PRIME" = some (.int PI t)) (cP : Cal P w K mg base "power" 1 ["a", "n"] spPow) : FnOk P w K mg base CX0 2 f fd ["a"] spInv := by
  obtain ⟨fP, fdP, G, gP, kP, bP⟩ := cP
  refine F.ok scInv (fun vs H Q E h => ?_) (fun cdv A outer s H vs Q E hr h => ?_)
  · obtain ⟨a, rfl, _⟩ := h
    rfl
  · obtain ⟨a, rfl, q⟩ := h
    refine ⟨_, pss_one (ps_ret (pe_call G hr (by rfl) gP kP bP .nil pass0 (pa_cons (pv 0) (pa_cons (pe_op op_sub (pe_glob rfl mP (relI _ _)) pe_int) pa_nil)))), ?_⟩
    refine ⟨_, rfl, _, _, rfl, rfl, a, PN - 2, ?_, q⟩
    show [V.int a, V.int (PI - 2)] = [V.int a, V.int ((PN - 2 : Nat) : Int)]
    rw [PI_2]
theorem ok_chi {f : Addr} {fd : FuncData} {t : Tok} (F : Fun K "square_class" "square_class" sChi f fd) (mP : mg "PRIME" = some (.int PI t)) (cP : Cal P w K mg base "power" 1 ["a", "n"] spPow) : FnOk P w K mg base CX0 2 f fd ["a"] spChi := by
  obtain ⟨fP, fdP, G, gP, kP, bP⟩ := cP
  refine F.ok scChi (fun vs H Q E h => ?_) (fun cdv A outer s H vs Q E hr h => ?_)
  · obtain ⟨a, rfl, _⟩ := h
    rfl
  · obtain ⟨a, rfl, q⟩ := h
    refine ⟨_, pss_cons (ps_set (i := 1) scChi.nd rfl (.inl rfl) (pe_call G hr (by rfl) gP kP bP .nil pass0 (pa_cons (pv 0) (pa_cons (pe_op op_fdiv (pe_op op_sub (pe_glob rfl mP (relI _ _)) pe_int) pe_int) pa_nil))))
      (pss_cons (ps_if (pt_cmpR op_eq (pv 1) (pe_op op_sub (pe_glob rfl mP (relI _ _)) pe_int) (nomark _)) (pss_one (ps_ret (pe_un un_neg pe_int))) pss_nil)
      (pss_one (ps_ret (pv 1)))), ?_⟩
    refine ⟨_, rfl, _, _, rfl, rfl, _, _, rfl, rfl, ⟨by decide, by decide⟩, a, (PN - 1) / 2, ?_, ?_⟩
    · show [V.int a, V.int ((PI - 1) / 2)] = [V.int a, V.int (((PN - 1) / 2 : Nat) : Int)]
      rw [PI_h]
    · refine ⟨_, rfl, _, _, rfl, rfl, rfl, _, rfl, ite2 (fun e => ?_) (fun e => ?_)⟩
      · have e' := V.int.inj (of_decide_eq_true e)
        unfold chiI at q
        rw [if_pos e'] at q
        exact ⟨_, rfl, q⟩
      · have e' : ¬ powI a ((PN - 1) / 2) = PI - 1 := fun z => e (decide_eq_true (by rw [z]))
        unfold chiI at q
        rw [if_neg e'] at q
        exact ⟨_, rfl, q⟩
end
end K12
namespace K12
open PySem PySem.Spec PyProof.Rows L2
abbrev sDbl : Stmt := topS 10
abbrev sAdp : Stmt := topS 11
abbrev sLad : Stmt := topS 12
abbrev sAff : Stmt := topS 13
abbrev sCur : Stmt := topS 14
theorem scDbl : FnScope ["point", "x", "z", "plus", "minus", "a", "b", "e"] ["point"] (defScope sDbl) := ⟨rfl, rfl, rfl, by decide +kernel, rfl, by decide +kernel, by decide +kernel⟩
theorem scAdp : FnScope ["low", "high", "u", "x2", "z2", "x3", "z3", "p", "q", "plus", "minus"] ["low", "high", "u"] (defScope sAdp) := ⟨rfl, rfl, rfl, by decide +kernel, rfl, by decide +kernel, by decide +kernel⟩
theorem scLad : FnScope ["n", "u", "low", "high", "back", "total"] ["n", "u"] (defScope sLad) := ⟨rfl, rfl, rfl, by decide +kernel, rfl, by decide +kernel, by decide +kernel⟩
theorem scAff : FnScope ["point", "x", "z"] ["point"] (defScope sAff) := ⟨rfl, rfl, rfl, by decide +kernel, rfl, by decide +kernel, by decide +kernel⟩
theorem scCur : FnScope ["u"] ["u"] (defScope sCur) := ⟨rfl, rfl, rfl, by decide +kernel, rfl, by decide +kernel, by decide +kernel⟩

/-- a field number -/
def Fn (a : Int) : Prop := 0 ≤ a ∧ a < PI
theorem aI_in (a b : Int) : Fn (aI a b) := ⟨Int.emod_nonneg _ (by decide +kernel), Int.emod_lt_of_pos _ PI_pos⟩
theorem sI_in (a b : Int) : Fn (sI a b) := ⟨Int.emod_nonneg _ (by decide +kernel), Int.emod_lt_of_pos _ PI_pos⟩
theorem mI_fn (a b : Int) : Fn (mI a b) := mI_in a b
theorem ivI_fn (a : Int) : Fn (ivI a) := powI_in a _
theorem two_le : (2 : Nat) ≤ sizeLine := by decide
theorem same_upd {H : Hp} {p : Addr} {o : HO} (h : H p = none) : Same H (upd H p o) := fun b x e => by
  rw [upd_ne (ne_of_none e h)]
  exact e

def Fn2 (p : Int × Int) : Prop := Fn p.1 ∧ Fn p.2
/-- the tuple of a pair of numbers -/
def tp (p : Int × Int) : HO := .tup [.int p.1, .int p.2]
theorem dblI_in (p : Int × Int) : Fn2 (dblI p) := ⟨mI_fn _ _, mI_fn _ _⟩
theorem daddI_in (p q : Int × Int) (u : Int) : Fn2 (daddI p q u) := ⟨mI_fn _ _, mI_fn _ _⟩
theorem zero_fn : Fn 0 := ⟨by decide +kernel, by decide +kernel⟩
theorem one_fn : Fn 1 := ⟨by decide +kernel, by decide +kernel⟩
theorem ladI_in {u : Int} (hu : Fn u) (n : Nat) : ∀ j, Fn2 (ladI n u j).1 ∧ Fn2 (ladI n u j).2
  | 0 => ⟨⟨one_fn, zero_fn⟩, ⟨hu, one_fn⟩⟩
  | j + 1 => by
    unfold ladI
    by_cases h : (n / 2 ^ (254 - j)) % 2 = 0
    · simp only [h, if_true]
      exact ⟨dblI_in _, daddI_in _ _ _⟩
    · simp only [h, if_false]
      exact ⟨daddI_in _ _ _, dblI_in _⟩
theorem lad_s0 {n : Nat} {u : Int} {j : Nat} (h : (n / 2 ^ (254 - j)) % 2 = 0) : ladI n u (j + 1) = (dblI (ladI n u j).1, daddI (ladI n u j).1 (ladI n u j).2 u) := by
  conv => lhs; unfold ladI
  simp only [h, if_true]
theorem lad_s1 {n : Nat} {u : Int} {j : Nat} (h : ¬ (n / 2 ^ (254 - j)) % 2 = 0) : ladI n u (j + 1) = (daddI (ladI n u j).1 (ladI n u j).2 u, dblI (ladI n u j).2) := by
  conv => lhs; unfold ladI
  simp only [h, if_false]

section
variable {P : Program} {w : World} {K : PySem.W.Frag} {mg : Str → Option Value} {base : Heap}
def spDbl : Sp := fun vs H Q _ => ∃ (a : Addr) (p : Int × Int), vs = [.ref a] ∧ H a = some (tp p) ∧ Fn2 p ∧ ∀ H' b, Same H H' → H' b = some (tp (dblI p)) → Q (.ref b) H'
def spAdp : Sp := fun vs H Q _ => ∃ (a b : Addr) (p q : Int × Int) (u : Int), vs = [.ref a, .ref b, .int u] ∧ H a = some (tp p) ∧ H b = some (tp q) ∧ Fn2 p ∧ Fn2 q ∧ Fn u ∧ ∀ H' c, Same H H' → H' c = some (tp (daddI p q u)) → Q (.ref c) H'
def spLad : Sp := fun vs H Q _ => ∃ (n : Nat) (u : Int), vs = [.int (n : Int), .int u] ∧ Fn u ∧ ∀ H' b, Same H H' → H' b = some (tp (lowI n u)) → Q (.ref b) H'
def spAff : Sp := fun vs H Q _ => ∃ (a : Addr) (p : Int × Int), vs = [.ref a] ∧ H a = some (tp p) ∧ Fn2 p ∧ Q (.int (affI p)) H
def spCur : Sp := fun vs H Q _ => ∃ u : Int, vs = [.int u] ∧ Fn u ∧ Q (.int (curveI u)) H

theorem ok_dbl {f : Addr} {fd : FuncData} {t : Tok} (F : Fun K "double" "double" sDbl f fd) (mA : mg "A24" = some (.int 121665 t))
    (cA : Cal P w K mg base "add" 1 ["a", "b"] spAdd) (cS : Cal P w K mg base "subtract" 1 ["a", "b"] spSub) (cM : Cal P w K mg base "multiply" 1 ["a", "b"] spMul) : FnOk P w K mg base CX0 2 f fd ["point"] spDbl := by
  obtain ⟨fA, fdA, GA, gA, kA, bA⟩ := cA
  obtain ⟨fS, fdS, GS, gS, kS, bS⟩ := cS
  obtain ⟨fM, fdM, GM, gM, kM, bM⟩ := cM
  refine F.ok scDbl (fun vs H Q E h => ?_) (fun cdv A outer s H vs Q E hr h => ?_)
  · obtain ⟨a, p, rfl, _⟩ := h
    rfl
  · obtain ⟨a, ⟨x, z⟩, rfl, ha, ⟨hx, hz⟩, q⟩ := h
    refine ⟨_, pss_cons (ps_asg (pv 0) (pg_tup rfl (pgs_cons (pg_name (i := 1) scDbl.nd rfl (.inl rfl)) (pgs_cons (pg_name (i := 2) scDbl.nd rfl (.inl rfl)) pgs_nil))))
      (pss_cons (ps_set (i := 3) scDbl.nd rfl (.inl rfl) (pe_call GA hr (by rfl) gA kA bA .nil pass0 (pa_cons (pv 1) (pa_cons (pv 2) pa_nil))))
      (pss_cons (ps_set (i := 4) scDbl.nd rfl (.inl rfl) (pe_call GS hr (by rfl) gS kS bS .nil pass0 (pa_cons (pv 1) (pa_cons (pv 2) pa_nil))))
      (pss_cons (ps_set (i := 5) scDbl.nd rfl (.inl rfl) (pe_call GM hr (by rfl) gM kM bM .nil pass0 (pa_cons (pv 3) (pa_cons (pv 3) pa_nil))))
      (pss_cons (ps_set (i := 6) scDbl.nd rfl (.inl rfl) (pe_call GM hr (by rfl) gM kM bM .nil pass0 (pa_cons (pv 4) (pa_cons (pv 4) pa_nil))))
      (pss_cons (ps_set (i := 7) scDbl.nd rfl (.inl rfl) (pe_call GS hr (by rfl) gS kS bS .nil pass0 (pa_cons (pv 5) (pa_cons (pv 6) pa_nil))))
      (pss_one (ps_ret (pe_tup (pa_cons (pe_call GM hr (by rfl) gM kM bM .nil pass0 (pa_cons (pv 5) (pa_cons (pv 6) pa_nil)))
        (pa_cons (pe_call GM hr (by rfl) gM kM bM .nil pass0 (pa_cons (pv 7) (pa_cons (pe_call GA hr (by rfl) gA kA bA .nil pass0 (pa_cons (pv 5) (pa_cons (pe_op op_mul (pe_glob rfl mA (relI _ _)) (pv 7)) pa_nil))) pa_nil))) pa_nil)))))))))), ?_⟩
    refine ⟨_, rfl, a, [.int x, .int z], rfl, .inl (.inl ha), rfl, _, _, rfl, _, _, rfl, rfl, ?_⟩
    refine ⟨_, rfl, _, rfl, x, z, rfl, ?_⟩
    refine ⟨_, rfl, _, rfl, x, z, rfl, ?_⟩
    refine ⟨_, rfl, _, rfl, aI x z, aI x z, rfl, in_abs (aI_in x z), in_abs (aI_in x z), ?_⟩
    refine ⟨_, rfl, _, rfl, sI x z, sI x z, rfl, in_abs (sI_in x z), in_abs (sI_in x z), ?_⟩
    refine ⟨_, rfl, _, rfl, _, _, rfl, ?_⟩
    refine ⟨_, rfl, _, rfl, _, _, rfl, in_abs (mI_in _ _), in_abs (mI_in _ _), ?_⟩
    refine ⟨_, rfl, _, rfl, _, rfl, _, _, rfl, rfl, .inl ⟨by decide, by decide⟩, _, _, rfl, _, _, rfl, in_abs (sI_in _ _), in_abs (aI_in _ _), two_le, fun b nb => ?_⟩
    exact q _ b (same_upd nb) upd_same

theorem ok_adp {f : Addr} {fd : FuncData} (F : Fun K "add_points" "add_points" sAdp f fd)
    (cA : Cal P w K mg base "add" 1 ["a", "b"] spAdd) (cS : Cal P w K mg base "subtract" 1 ["a", "b"] spSub) (cM : Cal P w K mg base "multiply" 1 ["a", "b"] spMul) : FnOk P w K mg base CX0 2 f fd ["low", "high", "u"] spAdp := by
  obtain ⟨fA, fdA, GA, gA, kA, bA⟩ := cA
  obtain ⟨fS, fdS, GS, gS, kS, bS⟩ := cS
  obtain ⟨fM, fdM, GM, gM, kM, bM⟩ := cM
  refine F.ok scAdp (fun vs H Q E h => ?_) (fun cdv A outer s H vs Q E hr h => ?_)
  · obtain ⟨a, b, p, q, u, rfl, _⟩ := h
    rfl
  · obtain ⟨a, b, ⟨x2, z2⟩, ⟨x3, z3⟩, u, rfl, ha, hb, ⟨hx2, hz2⟩, ⟨hx3, hz3⟩, hu, q⟩ := h
    refine ⟨_, pss_cons (ps_asg (pv 0) (pg_tup rfl (pgs_cons (pg_name (i := 3) scAdp.nd rfl (.inl rfl)) (pgs_cons (pg_name (i := 4) scAdp.nd rfl (.inl rfl)) pgs_nil))))
      (pss_cons (ps_asg (pv 1) (pg_tup rfl (pgs_cons (pg_name (i := 5) scAdp.nd rfl (.inl rfl)) (pgs_cons (pg_name (i := 6) scAdp.nd rfl (.inl rfl)) pgs_nil))))
      (pss_cons (ps_set (i := 7) scAdp.nd rfl (.inl rfl) (pe_call GM hr (by rfl) gM kM bM .nil pass0 (pa_cons (pe_call GS hr (by rfl) gS kS bS .nil pass0 (pa_cons (pv 5) (pa_cons (pv 6) pa_nil))) (pa_cons (pe_call GA hr (by rfl) gA kA bA .nil pass0 (pa_cons (pv 3) (pa_cons (pv 4) pa_nil))) pa_nil))))
      (pss_cons (ps_set (i := 8) scAdp.nd rfl (.inl rfl) (pe_call GM hr (by rfl) gM kM bM .nil pass0 (pa_cons (pe_call GA hr (by rfl) gA kA bA .nil pass0 (pa_cons (pv 5) (pa_cons (pv 6) pa_nil))) (pa_cons (pe_call GS hr (by rfl) gS kS bS .nil pass0 (pa_cons (pv 3) (pa_cons (pv 4) pa_nil))) pa_nil))))
      (pss_cons (ps_set (i := 9) scAdp.nd rfl (.inl rfl) (pe_call GA hr (by rfl) gA kA bA .nil pass0 (pa_cons (pv 7) (pa_cons (pv 8) pa_nil))))
      (pss_cons (ps_set (i := 10) scAdp.nd rfl (.inl rfl) (pe_call GS hr (by rfl) gS kS bS .nil pass0 (pa_cons (pv 7) (pa_cons (pv 8) pa_nil))))
      (pss_one (ps_ret (pe_tup (pa_cons (pe_call GM hr (by rfl) gM kM bM .nil pass0 (pa_cons (pv 9) (pa_cons (pv 9) pa_nil)))
        (pa_cons (pe_call GM hr (by rfl) gM kM bM .nil pass0 (pa_cons (pv 2) (pa_cons (pe_call GM hr (by rfl) gM kM bM .nil pass0 (pa_cons (pv 10) (pa_cons (pv 10) pa_nil))) pa_nil))) pa_nil)))))))))), ?_⟩
    refine ⟨_, rfl, a, [.int x2, .int z2], rfl, .inl (.inl ha), rfl, _, _, rfl, _, _, rfl, rfl, ?_⟩
    refine ⟨_, rfl, b, [.int x3, .int z3], rfl, .inl (.inl hb), rfl, _, _, rfl, _, _, rfl, rfl, ?_⟩
    refine ⟨_, rfl, _, rfl, _, _, rfl, _, rfl, _, rfl, _, _, rfl, _, _, rfl, in_abs (sI_in _ _), in_abs (aI_in _ _), ?_⟩
    refine ⟨_, rfl, _, rfl, _, _, rfl, _, rfl, _, rfl, _, _, rfl, _, _, rfl, in_abs (aI_in _ _), in_abs (sI_in _ _), ?_⟩
    refine ⟨_, rfl, _, rfl, _, _, rfl, ?_⟩
    refine ⟨_, rfl, _, rfl, _, _, rfl, ?_⟩
    refine ⟨_, rfl, _, rfl, _, _, rfl, in_abs (aI_in _ _), in_abs (aI_in _ _), ?_⟩
    refine ⟨_, rfl, _, rfl, _, rfl, _, _, rfl, in_abs (sI_in _ _), in_abs (sI_in _ _), _, _, rfl, in_abs hu, in_abs (mI_in _ _), two_le, fun c nc => ?_⟩
    exact q _ c (same_upd nc) upd_same

theorem shr_nat (n k : Nat) : (n : Int) / 2 ^ k = ((n / 2 ^ k : Nat) : Int) := by
  rw [Int.natCast_ediv, Int.natCast_pow]
  rfl

theorem ok_lad {f : Addr} {fd : FuncData} (F : Fun K "ladder" "ladder" sLad f fd) (mR : mg "range" = none)
    (cD : Cal P w K mg base "double" 2 ["point"] spDbl) (cA : Cal P w K mg base "add_points" 2 ["low", "high", "u"] spAdp) : FnOk P w K mg base CX0 3 f fd ["n", "u"] spLad := by
  obtain ⟨fD, fdD, GD, gD, kD, bD⟩ := cD
  obtain ⟨fA, fdA, GA, gA, kA, bA⟩ := cA
  refine F.ok scLad (fun vs H Q E h => ?_) (fun cdv A outer s H vs Q E hr h => ?_)
  · obtain ⟨n, u, rfl, _⟩ := h
    rfl
  · obtain ⟨n, u, rfl, hu, q⟩ := h
    refine ⟨_, pss_cons (ps_set (i := 2) scLad.nd rfl (.inl rfl) (pe_tup (pa_cons pe_int (pa_cons pe_int pa_nil))))
      (pss_cons (ps_set (i := 3) scLad.nd rfl (.inl rfl) (pe_tup (pa_cons (pv 1) (pa_cons pe_int pa_nil))))
      (pss_cons (ps_for PassesOwn.never rfl (pi_range1 rfl mR (pa_cons pe_int pa_nil)) (pg_name (i := 4) scLad.nd rfl (.inl rfl))
        (pss_cons (ps_set (i := 5) scLad.nd rfl (.inl rfl) (pe_call GA hr (by rfl) gA kA bA .nil pass0 (pa_cons (pv 2) (pa_cons (pv 3) (pa_cons (pv 1) pa_nil)))))
        (pss_one (ps_if (pt_cmpR op_eq (pe_op op_odd (pe_op op_shrN (pv 0) (pe_op op_sub pe_int (pv 4))) pe_int) pe_int (nomark _))
          (pss_cons (ps_set (i := 2) scLad.nd rfl (.inl rfl) (pe_call GD hr (by rfl) gD kD bD .nil pass0 (pa_cons (pv 2) pa_nil)))
            (pss_one (ps_set (i := 3) scLad.nd rfl (.inl rfl) (pv 5))))
          (pss_cons (ps_set (i := 3) scLad.nd rfl (.inl rfl) (pe_call GD hr (by rfl) gD kD bD .nil pass0 (pa_cons (pv 3) pa_nil)))
            (pss_one (ps_set (i := 2) scLad.nd rfl (.inl rfl) (pv 5))))))))
      (pss_one (ps_ret (pv 2))))), ?_⟩
    -- low, high
    refine ⟨two_le, fun lo nlo => ?_⟩
    refine ⟨_, rfl, two_le, fun hi nhi => ?_⟩
    have s1 : Same H (upd H lo (.tup [.int 1, .int 0])) := same_upd nlo
    have s2 := s1.trans (same_upd (o := .tup [.int u, .int 1]) nhi)
    have nlh : lo ≠ hi := fun e => by
      rw [← e, upd_same] at nhi
      cases nhi
    refine ⟨255, rfl, by decide, by decide, for_range (n := 255) (fun j σ H' => ∃ (lo hi : Addr) (b t : Option V), σ = [some (.int (n : Int)), some (.int u), some (.ref lo), some (.ref hi), b, t] ∧ Same H H' ∧ H' lo = some (tp (ladI n u j).1) ∧ H' hi = some (tp (ladI n u j).2))
      ⟨lo, hi, none, none, rfl, s2, ?_, upd_same⟩ ?_ ?_⟩
    · rw [upd_ne nlh]
      exact upd_same
    · rintro j σ H' hj ⟨lo, hi, b, t, rfl, sm, el, eh⟩
      have hin := ladI_in hu n j
      refine ⟨_, rfl, _, rfl, _, rfl, lo, hi, (ladI n u j).1, (ladI n u j).2, u, rfl, el, eh, hin.1, hin.2, hu, fun H1 c sm1 ec => ?_⟩
      refine ⟨_, rfl, _, rfl, _, _, rfl, rfl, (n : Int), 254 - j, rfl, ?_, n / 2 ^ (254 - j), ?_, rfl, rfl, _, rfl, ite2 (fun e => ?_) (fun e => ?_)⟩
      · show V.int (254 - (0 + (j : Int))) = V.int ((254 - j : Nat) : Int)
        congr 1
        omega
      · rw [shr_nat]
      · have h0 : n / 2 ^ (254 - j) % 2 = 0 := by
          have := V.int.inj (of_decide_eq_true e)
          omega
        refine ⟨_, rfl, lo, _, rfl, sm1 _ _ el, hin.1, fun H2 d sm2 ed => ⟨_, rfl, ?_⟩⟩
        refine ⟨d, c, _, _, rfl, (sm.trans sm1).trans sm2, ?_, ?_⟩
        · rw [lad_s0 h0]
          exact ed
        · rw [lad_s0 h0]
          exact sm2 _ _ ec
      · have h0 : ¬ n / 2 ^ (254 - j) % 2 = 0 := fun z => e (decide_eq_true (by rw [z]; rfl))
        refine ⟨_, rfl, hi, _, rfl, sm1 _ _ eh, hin.2, fun H2 d sm2 ed => ⟨_, rfl, ?_⟩⟩
        refine ⟨c, d, _, _, rfl, (sm.trans sm1).trans sm2, ?_, ?_⟩
        · rw [lad_s1 h0]
          exact sm2 _ _ ec
        · rw [lad_s1 h0]
          exact ed
    · rintro σ H' ⟨lo, hi, b, t, rfl, sm, el, eh⟩
      rw [← lowI_def] at el
      exact ⟨_, rfl, q H' lo sm el⟩

theorem ok_aff {f : Addr} {fd : FuncData} (F : Fun K "affine" "affine" sAff f fd)
    (cI : Cal P w K mg base "invert" 2 ["a"] spInv) (cM : Cal P w K mg base "multiply" 1 ["a", "b"] spMul) : FnOk P w K mg base CX0 3 f fd ["point"] spAff := by
  obtain ⟨fI, fdI, GI, gI, kI, bI⟩ := cI
  obtain ⟨fM, fdM, GM, gM, kM, bM⟩ := cM
  refine F.ok scAff (fun vs H Q E h => ?_) (fun cdv A outer s H vs Q E hr h => ?_)
  · obtain ⟨a, p, rfl, _⟩ := h
    rfl
  · obtain ⟨a, ⟨x, z⟩, rfl, ha, ⟨hx, hz⟩, q⟩ := h
    refine ⟨_, pss_cons (ps_asg (pv 0) (pg_tup rfl (pgs_cons (pg_name (i := 1) scAff.nd rfl (.inl rfl)) (pgs_cons (pg_name (i := 2) scAff.nd rfl (.inl rfl)) pgs_nil))))
      (pss_one (ps_ret (pe_call GM (hr.mono (by decide)) (by rfl) gM kM bM .nil pass0 (pa_cons (pv 1) (pa_cons (pe_call GI hr (by rfl) gI kI bI .nil pass0 (pa_cons (pv 2) pa_nil)) pa_nil))))), ?_⟩
    refine ⟨_, rfl, a, [.int x, .int z], rfl, .inl (.inl ha), rfl, _, _, rfl, _, _, rfl, rfl, ?_⟩
    exact ⟨_, rfl, _, rfl, z, rfl, x, ivI z, rfl, in_abs hx, in_abs (ivI_fn z), q⟩

theorem ok_cur {f : Addr} {fd : FuncData} (F : Fun K "curve_side" "curve_side" sCur f fd)
    (cC : Cal P w K mg base "square_class" 2 ["a"] spChi) : FnOk P w K mg base CX0 3 f fd ["u"] spCur := by
  obtain ⟨fC, fdC, GC, gC, kC, bC⟩ := cC
  refine F.ok scCur (fun vs H Q E h => ?_) (fun cdv A outer s H vs Q E hr h => ?_)
  · obtain ⟨u, rfl, _⟩ := h
    rfl
  · obtain ⟨u, rfl, hu, q⟩ := h
    refine ⟨_, pss_one (ps_ret (pe_call GC hr (by rfl) gC kC bC .nil pass0 (pa_cons (pe_op op_mulW (pv 0) (pe_op op_add (pe_op op_add (pe_op op_mulW (pv 0) (pv 0)) (pe_op op_mulW pe_int (pv 0))) pe_int)) pa_nil))), ?_⟩
    have h1 := in_abs hu
    have h2 : (486662 : Int).natAbs < 2 ^ 20 := by decide
    have h3 := wide_lt h1 h1
    have h4 := wide_lt h2 h1
    have h5 : (u * u + 486662 * u + 1).natAbs < 2 ^ 600 := by
      have e1 : (u * u + 486662 * u + 1).natAbs ≤ (u * u + 486662 * u).natAbs + (1 : Int).natAbs := Int.natAbs_add_le _ _
      have e2 : (u * u + 486662 * u).natAbs ≤ (u * u).natAbs + (486662 * u).natAbs := Int.natAbs_add_le _ _
      have e3 : (1 : Int).natAbs = 1 := rfl
      have e4 : 2 ^ (256 + 256) + 2 ^ (20 + 256) + 1 < 2 ^ 600 := by decide +kernel
      omega
    exact ⟨_, rfl, _, rfl, _, rfl, _, _, rfl, rfl, wide_mul h1 h1 (by decide) (by decide) (by decide), _, rfl, _, _, rfl, rfl, wide_mul h2 h1 (by decide) (by decide) (by decide), _, _, rfl, rfl, _, _, rfl, rfl, _, _, rfl, rfl, wide_mul h1 h5 (by decide) (by decide) (by decide), _, rfl, q⟩
end
end K12
namespace K12
open PySem PySem.Spec PyProof.Rows L2
abbrev sCell : Stmt := topS 16
abbrev sIsI : Stmt := topS 17
abbrev sPrm : Stmt := topS 18
abbrev sNum : Stmt := topS 19
abbrev sPnt : Stmt := topS 20
abbrev sNat : Stmt := topS 21
abbrev sIsF : Stmt := topS 22
theorem scCell : FnScope ["_law_script", "_law_k"] ["_law_script", "_law_k"] (defScope sCell) := ⟨rfl, rfl, rfl, by decide +kernel, rfl, by decide +kernel, by decide +kernel⟩
theorem scIsI : FnScope ["_law_actual"] ["_law_actual"] (defScope sIsI) := ⟨rfl, rfl, rfl, by decide +kernel, rfl, by decide +kernel, by decide +kernel⟩
theorem scPrm : FnScope [] [] (defScope sPrm) := ⟨rfl, rfl, rfl, by decide +kernel, rfl, by decide +kernel, by decide +kernel⟩
theorem scNum : FnScope ["_law_cell_here", "_law_rest", "_law_near", "_law_state", "_law_number_here", "_law_k"] ["_law_cell_here"] (defScope sNum) := ⟨rfl, rfl, rfl, by decide +kernel, rfl, by decide +kernel, by decide +kernel⟩
theorem scPnt : FnScope ["_law_cell_here", "_law_rest", "_law_low", "_law_high"] ["_law_cell_here"] (defScope sPnt) := ⟨rfl, rfl, rfl, by decide +kernel, rfl, by decide +kernel, by decide +kernel⟩
theorem scNat : FnScope ["_law_cell_here", "_law_salt", "_law_bits", "_law_rest", "_law_number_here", "_law_state", "_law_k", "_law_limit"] ["_law_cell_here", "_law_salt", "_law_bits"] (defScope sNat) := ⟨rfl, rfl, rfl, by decide +kernel, rfl, by decide +kernel, by decide +kernel⟩
theorem scIsF : FnScope ["_law_actual"] ["_law_actual"] (defScope sIsF) := ⟨rfl, rfl, rfl, by decide +kernel, rfl, by decide +kernel, by decide +kernel⟩

section
variable {P : Program} {w : World} {K : PySem.W.Frag} {mg : Str → Option Value} {base : Heap}
/-- some int -/
def spCell (K : PySem.W.Frag) : Sp := fun vs H Q _ => ∃ (a : Addr) (ns : List Int) (k : Nat), vs = [.ref a, .int (k : Int)] ∧ SqL K H a (ns.map V.int) ∧ ∀ c : Int, Q (.int c) H
def spIsI : Sp := fun vs H Q _ => ∃ a : Int, vs = [.int a] ∧ Q (.bl true) H
def spPrm : Sp := fun vs H Q _ => vs = [] ∧ Q (.int PI) H
def spNum : Sp := fun vs H Q _ => ∃ c : Int, vs = [.int c] ∧ ∀ z : Int, Q (.int z) H
def spPnt : Sp := fun vs H Q _ => ∃ c : Int, vs = [.int c] ∧ ∀ H' u, Same H H' → Fn u → Q (.int u) H'
def spNat : Sp := fun vs H Q _ => ∃ (c t : Int) (b : Nat), vs = [.int c, .int t, .int (b : Int)] ∧ b ≤ 255 ∧ ∀ m : Nat, m < 2 ^ b → Q (.int (m : Int)) H
def spIsF : Sp := fun vs H Q _ => ∃ a : Int, vs = [.int a] ∧ Fn a ∧ Q (.bl true) H

theorem ok_cell {f : Addr} {fd : FuncData} (F : Fun K "_law_cell" "_law_cell" sCell f fd) (mL : mg "len" = none) : FnOk P w K mg base CX0 1 f fd ["_law_script", "_law_k"] (spCell K) := by
  refine F.ok scCell (fun vs H Q E h => ?_) (fun cdv A outer s H vs Q E hr h => ?_)
  · obtain ⟨a, ns, k, rfl, _⟩ := h
    rfl
  · obtain ⟨a, ns, k, rfl, hS, q⟩ := h
    refine ⟨_, pss_cons (ps_if (pt_cmpR op_lt (pv 1) (pe_callB call_len_seq (by rfl) mL PySem.boot_len (pa_cons (pv 0) pa_nil)) (nomark _)) (pss_one (ps_ret (pe_ix ix_list (pv 0) (pv 1) (fun _ _ => rfl)))) pss_nil)
      (pss_one (ps_ret pe_int)), ?_⟩
    refine ⟨_, rfl, _, rfl, a, ns.map V.int, rfl, .inl hS, _, _, rfl, rfl, _, rfl, ite2 (fun e => ?_) (fun e => ?_)⟩
    · have h1 := of_decide_eq_true e
      rw [List.length_map] at h1
      have h2 : k < ns.length := by omega
      have g1 : (ns.map V.int)[k]? = some (.int ns[k]) := by
        rw [List.getElem?_map, List.getElem?_eq_getElem h2]
        rfl
      exact ⟨_, rfl, _, rfl, a, _, (k : Int), _, rfl, rfl, hS, atI_nat g1, q _⟩
    · exact q _

theorem ok_isI {f : Addr} {fd : FuncData} (F : Fun K "_law_is_integer" "_law_is_integer" sIsI f fd) (mI : mg "isinstance" = none) (mT : mg "int" = none) (mB : mg "bool" = none) : FnOk P w K mg base CX0 1 f fd ["_law_actual"] spIsI := by
  refine F.ok scIsI (fun vs H Q E h => ?_) (fun cdv A outer s H vs Q E hr h => ?_)
  · obtain ⟨a, rfl, _⟩ := h
    rfl
  · obtain ⟨a, rfl, q⟩ := h
    refine ⟨_, pss_one (ps_ret (pe_and (pe_callB call_isi (by rfl) mI boot_isinstance (pa_cons (pv 0) (pa_cons (pe_bltn (v := .ty "int") (by rfl) mT (by decide +kernel) rfl) pa_nil)))
      (pe_one (pe_not (pe_callB call_isi (by rfl) mI boot_isinstance (pa_cons (pv 0) (pa_cons (pe_bltn (v := .ty "bool") (by rfl) mB (by decide +kernel) rfl) pa_nil))))))), ?_⟩
    refine ⟨_, rfl, .int a, .ty "int", _, _, true, rfl, .ty "int", .base (.int a), kit_ty (by decide +kernel), true, rfl, iteT ?_⟩
    exact ⟨_, rfl, .int a, .ty "bool", _, _, false, rfl, .ty "bool", .base (.int a), kit_ty (by decide +kernel), false, rfl, q⟩

theorem ok_prm {f : Addr} {fd : FuncData} (F : Fun K "_law_prime" "_law_prime" sPrm f fd) : FnOk P w K mg base CX0 1 f fd [] spPrm := by
  refine F.ok scPrm (fun vs H Q E h => ?_) (fun cdv A outer s H vs Q E hr h => ?_)
  · obtain ⟨rfl, _⟩ := h
    rfl
  · obtain ⟨rfl, q⟩ := h
    refine ⟨_, pss_one (ps_ret (pe_op op_sub (pe_op op_mulW (pe_op op_mulW (pe_op op_mulW (pe_op op_pow pe_int pe_int) (pe_op op_pow pe_int pe_int)) (pe_op op_pow pe_int pe_int)) (pe_op op_pow pe_int pe_int)) pe_int)), ?_⟩
    refine ⟨_, _, rfl, rfl, ⟨by decide, by decide, by decide⟩, _, _, rfl, rfl, ⟨by decide, by decide, by decide⟩, _, _, rfl, rfl, wide_mul (a := 65) (b := 65) (by decide) (by decide) (by decide) (by decide) (by decide),
      _, _, rfl, rfl, ⟨by decide, by decide, by decide⟩, _, _, rfl, rfl, wide_mul (a := 130) (b := 65) (by decide) (by decide) (by decide) (by decide) (by decide),
      _, _, rfl, rfl, ⟨by decide, by decide, by decide⟩, _, _, rfl, rfl, wide_mul (a := 200) (b := 65) (by decide) (by decide) (by decide) (by decide) (by decide), _, _, rfl, rfl, ?_⟩
    have e : (2 : Int) ^ (64 : Int).toNat * 2 ^ (64 : Int).toNat * 2 ^ (64 : Int).toNat * 2 ^ (63 : Int).toNat - 19 = PI := by decide +kernel
    show Q (V.int ((2 : Int) ^ (64 : Int).toNat * 2 ^ (64 : Int).toNat * 2 ^ (64 : Int).toNat * 2 ^ (63 : Int).toNat - 19)) H
    rw [e]
    exact q

theorem ok_num {f : Addr} {fd : FuncData} (F : Fun K "_law_number" "_law_number" sNum f fd) (mA : mg "abs" = none) (mR : mg "range" = none)
    (cP : Cal P w K mg base "_law_prime" 1 [] spPrm) : FnOk P w K mg base CX0 2 f fd ["_law_cell_here"] spNum := by
  obtain ⟨fP, fdP, GP, gP, kP, bP⟩ := cP
  refine F.ok scNum (fun vs H Q E h => ?_) (fun cdv A outer s H vs Q E hr h => ?_)
  · obtain ⟨c, rfl, _⟩ := h
    rfl
  · obtain ⟨c, rfl, q⟩ := h
    refine ⟨_, pss_cons (ps_set (i := 1) scNum.nd rfl (.inl rfl) (pe_callB call_abs (by rfl) mA boot_abs (pa_cons (pv 0) pa_nil)))
      (pss_cons (ps_if (pt_cmpR op_ge (pv 1) (pe_op op_pow pe_int pe_int) (nomark _)) (pss_one (ps_ret (pv 0))) pss_nil)
      (pss_cons (ps_set (i := 2) scNum.nd rfl (.inl rfl) (pe_op op_mod (pe_op op_fdiv (pv 1) pe_int) pe_int))
      (pss_cons (ps_if (pt_cmpR op_eq (pe_op op_mod (pv 1) pe_int) pe_int (nomark _)) (pss_one (ps_ret (pe_op op_sub (pe_call0 GP hr (by rfl) gP kP bP .nil pass0) (pv 2)))) pss_nil)
      (pss_cons (ps_if (pt_cmpR op_eq (pe_op op_mod (pv 1) pe_int) pe_int (nomark _)) (pss_one (ps_ret (pe_op op_add (pe_call0 GP hr (by rfl) gP kP bP .nil pass0) (pv 2)))) pss_nil)
      (pss_cons (ps_if (pt_cmpR op_eq (pe_op op_mod (pv 1) pe_int) pe_int (nomark _)) (pss_one (ps_ret (pe_op op_sub (pv 2) pe_int))) pss_nil)
      (pss_cons (ps_if (pt_cmpR op_eq (pe_op op_mod (pv 1) pe_int) pe_int (nomark _)) (pss_one (ps_ret (pe_op op_sub (pe_op op_pow pe_int pe_int) (pv 2)))) pss_nil)
      (pss_cons (ps_set (i := 3) scNum.nd rfl (.inl rfl) (pe_op op_add (pv 1) pe_int))
      (pss_cons (ps_set (i := 4) scNum.nd rfl (.inl rfl) pe_int)
      (pss_cons (ps_for PassesOwn.never rfl (pi_range1 rfl mR (pa_cons pe_int pa_nil)) (pg_name (i := 5) scNum.nd rfl (.inl rfl))
        (pss_cons (ps_set (i := 3) scNum.nd rfl (.inl rfl) (pe_op op_mod (pe_op op_add (pe_op op_mul (pv 3) pe_int) pe_int) pe_int))
        (pss_one (ps_set (i := 4) scNum.nd rfl (.inl rfl) (pe_op op_add (pe_op op_mul (pv 4) (pe_op op_pow pe_int pe_int)) (pv 3))))))
      (pss_one (ps_ret (pv 4)))))))))))), ?_⟩
    refine ⟨_, rfl, c, rfl, ?_⟩
    generalize (if c < 0 then -c else c) = r
    refine ⟨_, rfl, _, _, rfl, rfl, ⟨by decide, by decide, by decide⟩, _, _, rfl, rfl, _, rfl, ite2 (fun _ => ⟨_, rfl, q _⟩) (fun _ => ?_)⟩
    refine ⟨_, rfl, _, _, rfl, rfl, ⟨by decide, by decide⟩, _, _, rfl, rfl, (by show (0 : Int) < 100; decide), ?_⟩
    refine ⟨_, rfl, _, _, rfl, rfl, (by show (0 : Int) < 7; decide), rfl, _, rfl, ite2 (fun _ => ⟨rfl, _, rfl, _, _, rfl, rfl, q _⟩) (fun _ => ?_)⟩
    refine ⟨_, rfl, _, _, rfl, rfl, (by show (0 : Int) < 7; decide), rfl, _, rfl, ite2 (fun _ => ⟨rfl, _, rfl, _, _, rfl, rfl, q _⟩) (fun _ => ?_)⟩
    refine ⟨_, rfl, _, _, rfl, rfl, (by show (0 : Int) < 7; decide), rfl, _, rfl, ite2 (fun _ => ⟨_, rfl, _, _, rfl, rfl, q _⟩) (fun _ => ?_)⟩
    refine ⟨_, rfl, _, _, rfl, rfl, (by show (0 : Int) < 7; decide), rfl, _, rfl, ite2 (fun _ => ⟨_, _, rfl, rfl, ⟨by decide, by decide, by decide⟩, _, rfl, _, _, rfl, rfl, q _⟩) (fun _ => ?_)⟩
    refine ⟨_, rfl, _, _, rfl, rfl, ?_⟩
    refine ⟨9, rfl, by decide, by decide, for_range (n := 9) (fun j σ H' => ∃ (x0 x1 x2 : Option V) (s n : Int) (k : Option V), σ = [x0, x1, x2, some (.int s), some (.int n), k] ∧ H = H') ⟨_, _, _, _, _, _, rfl, rfl⟩ ?_ ?_⟩
    · rintro j σ H' hj ⟨x0, x1, x2, s, n, k, rfl, rfl⟩
      exact ⟨_, rfl, _, _, rfl, rfl, .inr ⟨by decide, by decide⟩, _, _, rfl, rfl, _, _, rfl, rfl, (by show (0 : Int) < 2147483647; decide), _, rfl, _, _, rfl, rfl, ⟨by decide, by decide, by decide⟩, _, _, rfl, rfl, .inr ⟨by decide, by decide⟩, _, rfl, _, _, rfl, rfl, _, _, _, _, _, _, rfl, rfl⟩
    · rintro σ H' ⟨x0, x1, x2, s, n, k, rfl, rfl⟩
      exact ⟨_, rfl, q _⟩

theorem pow18 : (10 : Int) ^ (18 : Int).toNat = 1000000000000000000 := by decide +kernel

theorem ok_pnt {f : Addr} {fd : FuncData} (F : Fun K "_law_point" "_law_point" sPnt f fd) (mA : mg "abs" = none)
    (cP : Cal P w K mg base "_law_prime" 1 [] spPrm) (cN : Cal P w K mg base "_law_number" 2 ["_law_cell_here"] spNum) : FnOk P w K mg base CX0 3 f fd ["_law_cell_here"] spPnt := by
  obtain ⟨fP, fdP, GP, gP, kP, bP⟩ := cP
  obtain ⟨fN, fdN, GN, gN, kN, bN⟩ := cN
  refine F.ok scPnt (fun vs H Q E h => ?_) (fun cdv A outer s H vs Q E hr h => ?_)
  · obtain ⟨c, rfl, _⟩ := h
    rfl
  · obtain ⟨c, rfl, q⟩ := h
    have hr1 : Room 1 _ := hr.mono (by decide)
    refine ⟨_, pss_cons (ps_set (i := 1) scPnt.nd rfl (.inl rfl) (pe_callB call_abs (by rfl) mA boot_abs (pa_cons (pv 0) pa_nil)))
      (pss_cons (ps_if (PW.pt (pw_or (pt_cmpR op_ge (pv 1) (pe_op op_pow pe_int pe_int) (nomark _)) (pw_or1 (pt_cmpR op_eq (pe_op op_mod (pv 1) pe_int) pe_int (nomark _)))))
        (pss_one (ps_ret (pe_op op_mod (pe_call GN hr (by rfl) gN kN bN .nil pass0 (pa_cons (pv 0) pa_nil)) (pe_call0 GP hr1 (by rfl) gP kP bP .nil pass0)))) pss_nil)
      (pss_cons (ps_set (i := 2) scPnt.nd rfl (.inl rfl) pe_int)
      (pss_cons (ps_set (i := 3) scPnt.nd rfl (.inl rfl) pe_int)
      (pss_one (ps_ret (pe_ix ix_list (pe_lst (pa_cons pe_int (pa_cons pe_int (pa_cons (pe_op op_sub (pe_call0 GP hr1 (by rfl) gP kP bP .nil pass0) pe_int) (pa_cons (pv 2) (pa_cons (pv 3) (pa_cons pe_int (pa_cons pe_int (pa_cons (pe_op op_fdiv (pv 1) pe_int) pa_nil)))))))))
        (pe_op op_mod (pe_op op_fdiv (pv 1) pe_int) pe_int) (fun _ _ => rfl))))))), ?_⟩
    refine ⟨_, rfl, c, rfl, ?_⟩
    have hr0 : 0 ≤ (if c < 0 then -c else c) := by
      split <;> omega
    generalize (if c < 0 then -c else c) = r at hr0
    have drawn : ∀ z : Int, Fn (z % PI) := fun z => ⟨Int.emod_nonneg _ (by decide +kernel), Int.emod_lt_of_pos _ PI_pos⟩
    refine ⟨_, rfl, _, _, rfl, rfl, ⟨by decide, by decide, by decide⟩, _, _, rfl, rfl, _, rfl, ite2 (fun _ => ?_) (fun e => ?_)⟩
    · refine iteT ?_
      exact ⟨_, rfl, c, rfl, fun z => ⟨rfl, _, _, rfl, rfl, PI_pos, q H _ (Same.refl H) (drawn z)⟩⟩
    · refine ⟨_, rfl, _, _, rfl, rfl, (by show (0 : Int) < 3; decide), rfl, _, rfl, ite2 (fun _ => ?_) (fun _ => ?_)⟩
      · exact ⟨_, rfl, c, rfl, fun z => ⟨rfl, _, _, rfl, rfl, PI_pos, q H _ (Same.refl H) (drawn z)⟩⟩
      · have hr1 : r < 1000000000000000000 := by
          rw [← pow18]
          have : ¬ (r ≥ (10 : Int) ^ (18 : Int).toNat) := fun z => e (decide_eq_true z)
          omega
        refine ⟨rfl, _, _, rfl, rfl, _, rfl, _, rfl, _, rfl, _, _, rfl, rfl, ⟨by decide, by decide⟩, (by show 8 ≤ sizeLine; decide), fun p np => ?_⟩
        obtain ⟨j, hj⟩ : ∃ j : Nat, r / 3 % 8 = (j : Int) := ⟨(r / 3 % 8).toNat, by omega⟩
        have hj8 : j < 8 := by omega
        have fin : ∀ u : Int, Fn u → Q (.int u) (upd H p (.lst [.int 0, .int 1, .int (PI - 1), .int 325606250916557431795983626356110631294008115727848805560023387167927233504, .int 39382357235489614581723060781553021112529911719440698176882885853963445705823, .int 9, .int 2, .int (r / 24)])) := fun u hu => q _ u (same_upd np) hu
        have it : ∃ u : Int, [V.int 0, V.int 1, V.int (PI - 1), V.int 325606250916557431795983626356110631294008115727848805560023387167927233504, V.int 39382357235489614581723060781553021112529911719440698176882885853963445705823, V.int 9, V.int 2, V.int (r / 24)][j]? = some (.int u) ∧ Fn u := by
          have hc : j = 0 ∨ j = 1 ∨ j = 2 ∨ j = 3 ∨ j = 4 ∨ j = 5 ∨ j = 6 ∨ j = 7 := by omega
          rcases hc with rfl | rfl | rfl | rfl | rfl | rfl | rfl | rfl
          · exact ⟨_, rfl, by decide +kernel, by decide +kernel⟩
          · exact ⟨_, rfl, by decide +kernel, by decide +kernel⟩
          · exact ⟨_, rfl, by decide +kernel, by decide +kernel⟩
          · exact ⟨_, rfl, by decide +kernel, by decide +kernel⟩
          · exact ⟨_, rfl, by decide +kernel, by decide +kernel⟩
          · exact ⟨_, rfl, by decide +kernel, by decide +kernel⟩
          · exact ⟨_, rfl, by decide +kernel, by decide +kernel⟩
          · refine ⟨_, rfl, by omega, ?_⟩
            have : (1000000000000000000 : Int) < PI := by decide +kernel
            omega
        obtain ⟨u, hu, fu⟩ := it
        refine ⟨_, rfl, _, _, rfl, rfl, ⟨by decide, by decide⟩, _, _, rfl, rfl, (by show (0 : Int) < 8; decide), p, _, _, _, rfl, rfl, .inl (.inl upd_same), ?_, fin u fu⟩
        show atI _ (r / 3 % 8) = _
        rw [hj]
        exact atI_nat hu

theorem pow_succ_cast (j : Nat) : (2 : Int) ^ j * 2 = 2 ^ (j + 1) := by rw [Int.pow_succ]
theorem pow_pos_cast (j : Nat) : (0 : Int) < 2 ^ j := Int.pow_pos (by decide)

theorem ok_nat {f : Addr} {fd : FuncData} (F : Fun K "_law_natural" "_law_natural" sNat f fd) (mA : mg "abs" = none) (mR : mg "range" = none) : FnOk P w K mg base CX0 1 f fd ["_law_cell_here", "_law_salt", "_law_bits"] spNat := by
  refine F.ok scNat (fun vs H Q E h => ?_) (fun cdv A outer s H vs Q E hr h => ?_)
  · obtain ⟨c, t, b, rfl, _⟩ := h
    rfl
  · obtain ⟨c, t, b, rfl, hb, q⟩ := h
    refine ⟨_, pss_cons (ps_set (i := 3) scNat.nd rfl (.inl rfl) (pe_callB call_abs (by rfl) mA boot_abs (pa_cons (pv 0) pa_nil)))
      (pss_cons (ps_set (i := 4) scNat.nd rfl (.inl rfl) (pv 3))
      (pss_cons (ps_if (pt_cmpR op_lt (pv 3) (pe_op op_pow pe_int pe_int) (nomark _))
        (pss_cons (ps_set (i := 5) scNat.nd rfl (.inl rfl) (pe_op op_add (pe_op op_mul (pv 3) pe_int) (pv 1)))
        (pss_one (ps_for PassesOwn.never rfl (pi_range1 rfl mR (pa_cons pe_int pa_nil)) (pg_name (i := 6) scNat.nd rfl (.inl rfl))
          (pss_cons (ps_set (i := 5) scNat.nd rfl (.inl rfl) (pe_op op_mod (pe_op op_add (pe_op op_mul (pv 5) pe_int) pe_int) pe_int))
          (pss_one (ps_set (i := 4) scNat.nd rfl (.inl rfl) (pe_op op_add (pe_op op_mul (pv 4) (pe_op op_pow pe_int pe_int)) (pv 5)))))))) pss_nil)
      (pss_cons (ps_set (i := 7) scNat.nd rfl (.inl rfl) pe_int)
      (pss_cons (ps_for PassesOwn.never rfl (pi_range1 rfl mR (pa_cons (pv 2) pa_nil)) (pg_name (i := 6) scNat.nd rfl (.inl rfl))
          (pss_one (ps_set (i := 7) scNat.nd rfl (.inl rfl) (pe_op op_mul (pv 7) pe_int))))
      (pss_one (ps_ret (pe_op op_mod (pv 4) (pv 7)))))))), ?_⟩
    refine ⟨_, rfl, c, rfl, ?_⟩
    generalize (if c < 0 then -c else c) = r
    have fin : ∀ n : Int, Q (.int (n % (2 : Int) ^ b)) H := fun n => by
      have h1 := Int.emod_nonneg n (show (2 : Int) ^ b ≠ 0 from by have := pow_pos_cast b; omega)
      have h2 := Int.emod_lt_of_pos n (pow_pos_cast b)
      obtain ⟨m, hm⟩ : ∃ m : Nat, n % (2 : Int) ^ b = (m : Int) := ⟨(n % (2 : Int) ^ b).toNat, (Int.toNat_of_nonneg h1).symm⟩
      rw [hm] at h2 ⊢
      refine q m ?_
      have e : ((2 ^ b : Nat) : Int) = (2 : Int) ^ b := by rw [Int.natCast_pow]; rfl
      rw [← e] at h2
      exact Int.ofNat_lt.mp h2
    refine ⟨_, rfl, _, rfl, _, _, rfl, rfl, ⟨by decide, by decide, by decide⟩, _, _, rfl, rfl, _, rfl, ite2 (fun _ => ?_) (fun _ => ?_)⟩
    · refine ⟨_, rfl, _, _, rfl, rfl, .inr ⟨by decide, by decide⟩, _, rfl, _, _, rfl, rfl, ?_⟩
      refine ⟨9, rfl, by decide, by decide, for_range (n := 9) (fun j σ H' => ∃ (x0 x1 x3 x6 : Option V) (s n : Int), σ = [x0, x1, some (.int (b : Int)), x3, some (.int n), some (.int s), x6, none] ∧ H = H') ⟨_, _, _, _, _, _, rfl, rfl⟩ ?_ ?_⟩
      · rintro j σ H' hj ⟨x0, x1, x3, x6, s, n, rfl, rfl⟩
        exact ⟨_, rfl, _, _, rfl, rfl, .inr ⟨by decide, by decide⟩, _, _, rfl, rfl, _, _, rfl, rfl, (by show (0 : Int) < 2147483647; decide), _, rfl, _, _, rfl, rfl, ⟨by decide, by decide, by decide⟩, _, _, rfl, rfl, .inr ⟨by decide, by decide⟩, _, rfl, _, _, rfl, rfl, _, _, _, _, _, _, rfl, rfl⟩
      · rintro σ H' ⟨x0, x1, x3, x6, s, n, rfl, rfl⟩
        refine ⟨_, rfl, (b : Int), rfl, by omega, by omega, for_range (n := b) (fun j σ H' => ∃ (x0 x1 x3 x5 x6 : Option V) (n : Int), σ = [x0, x1, some (.int (b : Int)), x3, some (.int n), x5, x6, some (.int ((2 : Int) ^ j))] ∧ H = H') ⟨_, _, _, _, _, _, rfl, rfl⟩ ?_ ?_⟩
        · rintro j σ H' hj ⟨x0, x1, x3, x5, x6, n, rfl, rfl⟩
          refine ⟨_, rfl, _, _, rfl, rfl, .inr ⟨by decide, by decide⟩, x0, x1, x3, x5, some (.int (0 + (j : Int))), n, ?_, rfl⟩
          rw [← pow_succ_cast]
          rfl
        · rintro σ H' ⟨x0, x1, x3, x5, x6, n, rfl, rfl⟩
          exact ⟨_, rfl, _, rfl, _, _, rfl, rfl, pow_pos_cast b, fin n⟩
    · refine ⟨_, rfl, (b : Int), rfl, by omega, by omega, for_range (n := b) (fun j σ H' => ∃ (x0 x1 x3 x5 x6 : Option V) (n : Int), σ = [x0, x1, some (.int (b : Int)), x3, some (.int n), x5, x6, some (.int ((2 : Int) ^ j))] ∧ H = H') ⟨_, _, _, _, _, _, rfl, rfl⟩ ?_ ?_⟩
      · rintro j σ H' hj ⟨x0, x1, x3, x5, x6, n, rfl, rfl⟩
        refine ⟨_, rfl, _, _, rfl, rfl, .inr ⟨by decide, by decide⟩, x0, x1, x3, x5, some (.int (0 + (j : Int))), n, ?_, rfl⟩
        rw [← pow_succ_cast]
        rfl
      · rintro σ H' ⟨x0, x1, x3, x5, x6, n, rfl, rfl⟩
        exact ⟨_, rfl, _, rfl, _, _, rfl, rfl, pow_pos_cast b, fin n⟩

theorem ok_isF {f : Addr} {fd : FuncData} (F : Fun K "_law_is_field_number" "_law_is_field_number" sIsF f fd)
    (cI : Cal P w K mg base "_law_is_integer" 1 ["_law_actual"] spIsI) (cP : Cal P w K mg base "_law_prime" 1 [] spPrm) : FnOk P w K mg base CX0 2 f fd ["_law_actual"] spIsF := by
  obtain ⟨fI, fdI, GI, gI, kI, bI⟩ := cI
  obtain ⟨fP, fdP, GP, gP, kP, bP⟩ := cP
  refine F.ok scIsF (fun vs H Q E h => ?_) (fun cdv A outer s H vs Q E hr h => ?_)
  · obtain ⟨a, rfl, _⟩ := h
    rfl
  · obtain ⟨a, rfl, ha, q⟩ := h
    refine ⟨_, pss_one (ps_ret (pe_and (pe_call GI hr (by rfl) gI kI bI .nil pass0 (pa_cons (pv 0) pa_nil))
      (pe_one (pe_chain op_le op_lt pe_int (pv 0) (pe_call0 GP hr (by rfl) gP kP bP .nil pass0))))), ?_⟩
    refine ⟨_, rfl, a, rfl, true, rfl, iteT ?_⟩
    refine ⟨_, rfl, _, _, rfl, rfl, _, rfl, ?_⟩
    have e1 : decide ((0 : Int) ≤ a) = true := decide_eq_true ha.1
    have e2 : decide (a < PI) = true := decide_eq_true ha.2
    show if decide ((0 : Int) ≤ a) = true then _ else _
    rw [if_pos e1]
    refine ⟨rfl, _, _, rfl, rfl, ?_⟩
    show Q (V.bl (decide (a < PI))) H
    rw [e2]
    exact q
end
end K12
namespace K12
open PySem PySem.Spec PyProof.Rows L2
abbrev sLaw : Stmt := topS 23
theorem scLaw : FnScope ["_law_script", "_law_u", "_law_bits", "_law_m", "_law_n", "_law_once", "_law_whole"] ["_law_script"] (defScope sLaw) := ⟨rfl, rfl, rfl, by decide +kernel, rfl, by decide +kernel, by decide +kernel⟩
theorem low_in {u : Int} (hu : Fn u) (n : Nat) : Fn2 (lowI n u) := by
  rw [lowI_def]
  exact (ladI_in hu n 255).1
theorem nat_abs {m k : Nat} (h : m < 2 ^ k) (hk : k ≤ 256) : (m : Int).natAbs < 2 ^ 256 := by
  rw [Int.natAbs_natCast]
  exact Nat.lt_of_lt_of_le h (Nat.pow_le_pow_right (by decide) hk)
theorem lt_255 {m k : Nat} (h : m < 2 ^ k) (hk : k ≤ 255) : m < 2 ^ 255 := Nat.lt_of_lt_of_le h (Nat.pow_le_pow_right (by decide) hk)
theorem prod_255 {m n b : Nat} (hm : m < 2 ^ b) (hn : n < 2 ^ (255 - b)) (hb : b ≤ 255) : m * n < 2 ^ 255 := by
  have h := Nat.mul_lt_mul'' hm hn
  rw [← Nat.pow_add] at h
  have e : b + (255 - b) = 255 := by omega
  rw [e] at h
  exact h
theorem dbl_255 {m b : Nat} (hm : m < 2 ^ b) (hb : b < 255) : 2 * m < 2 ^ 255 := by
  have h : m < 2 ^ 254 := Nat.lt_of_lt_of_le hm (Nat.pow_le_pow_right (by decide) (by omega))
  have e : (2 : Nat) ^ 255 = 2 * 2 ^ 254 := by decide +kernel
  omega
section
variable {P : Program} {w : World} {K : PySem.W.Frag} {mg : Str → Option Value} {base : Heap}
def spLaw (K : PySem.W.Frag) : Sp := fun vs H Q _ => ∃ (a : Addr) (ns : List Int), vs = [.ref a] ∧ SqL K H a (ns.map V.int) ∧ ns.length ≤ 63 ∧ ∀ H', Q (.bl true) H'
set_option maxHeartbeats 4000000 in
theorem ok_law {f : Addr} {fd : FuncData} (F : Fun K "law" "law" sLaw f fd) (mA : mg "abs" = none)
    (cPt : Cal P w K mg base "_law_point" 3 ["_law_cell_here"] spPnt) (cCe : Cal P w K mg base "_law_cell" 1 ["_law_script", "_law_k"] (spCell K))
    (cNa : Cal P w K mg base "_law_natural" 1 ["_law_cell_here", "_law_salt", "_law_bits"] spNat) (cLa : Cal P w K mg base "ladder" 3 ["n", "u"] spLad)
    (cAf : Cal P w K mg base "affine" 3 ["point"] spAff) (cDb : Cal P w K mg base "double" 2 ["point"] spDbl) (cIf : Cal P w K mg base "_law_is_field_number" 2 ["_law_actual"] spIsF)
    (cCu : Cal P w K mg base "curve_side" 3 ["u"] spCur) : FnOk P w K mg base CX0 4 f fd ["_law_script"] (spLaw K) := by
  obtain ⟨fPt, fdPt, GPt, gPt, kPt, bPt⟩ := cPt
  obtain ⟨fCe, fdCe, GCe, gCe, kCe, bCe⟩ := cCe
  obtain ⟨fNa, fdNa, GNa, gNa, kNa, bNa⟩ := cNa
  obtain ⟨fLa, fdLa, GLa, gLa, kLa, bLa⟩ := cLa
  obtain ⟨fAf, fdAf, GAf, gAf, kAf, bAf⟩ := cAf
  obtain ⟨fDb, fdDb, GDb, gDb, kDb, bDb⟩ := cDb
  obtain ⟨fIf, fdIf, GIf, gIf, kIf, bIf⟩ := cIf
  obtain ⟨fCu, fdCu, GCu, gCu, kCu, bCu⟩ := cCu
  refine F.ok scLaw (fun vs H Q E h => ?_) (fun cdv A outer s H vs Q E hr h => ?_)
  · obtain ⟨a, ns, rfl, _⟩ := h
    rfl
  · obtain ⟨a, ns, rfl, hS, hlen, q⟩ := h
    have hr1 : Room 1 _ := hr.mono (by decide)
    have hr2 : Room 2 _ := hr.mono (by decide)
    refine ⟨_, pss_cons (ps_set (i := 1) scLaw.nd rfl (.inl rfl) (pe_call GPt hr (by rfl) gPt kPt bPt .nil pass0 (pa_cons (pe_call GCe hr1 (by rfl) gCe kCe bCe .nil pass0 (pa_cons (pv 0) (pa_cons pe_int pa_nil))) pa_nil)))
      (pss_cons (ps_set (i := 2) scLaw.nd rfl (.inl rfl) (pe_op op_mod (pe_callB call_abs (by rfl) mA boot_abs (pa_cons (pe_call GCe hr1 (by rfl) gCe kCe bCe .nil pass0 (pa_cons (pv 0) (pa_cons pe_int pa_nil))) pa_nil)) pe_int))
      (pss_cons (ps_set (i := 3) scLaw.nd rfl (.inl rfl) (pe_call GNa hr1 (by rfl) gNa kNa bNa .nil pass0 (pa_cons (pe_call GCe hr1 (by rfl) gCe kCe bCe .nil pass0 (pa_cons (pv 0) (pa_cons pe_int pa_nil))) (pa_cons pe_int (pa_cons (pv 2) pa_nil)))))
      (pss_cons (ps_set (i := 4) scLaw.nd rfl (.inl rfl) (pe_call GNa hr1 (by rfl) gNa kNa bNa .nil pass0 (pa_cons (pe_call GCe hr1 (by rfl) gCe kCe bCe .nil pass0 (pa_cons (pv 0) (pa_cons pe_int pa_nil))) (pa_cons pe_int (pa_cons (pe_op op_sub pe_int (pv 2)) pa_nil)))))
      (pss_cons (ps_set (i := 5) scLaw.nd rfl (.inl rfl) (pe_call GAf hr (by rfl) gAf kAf bAf .nil pass0 (pa_cons (pe_call GLa hr (by rfl) gLa kLa bLa .nil pass0 (pa_cons (pv 4) (pa_cons (pv 1) pa_nil))) pa_nil)))
      (pss_cons (ps_set (i := 6) scLaw.nd rfl (.inl rfl) (pe_call GAf hr (by rfl) gAf kAf bAf .nil pass0 (pa_cons (pe_call GLa hr (by rfl) gLa kLa bLa .nil pass0 (pa_cons (pe_op op_mulW (pv 3) (pv 4)) (pa_cons (pv 1) pa_nil))) pa_nil)))
      (pss_cons (ps_if (PW.pt (pw_or (pt_not (pt_val (pe_call GIf hr2 (by rfl) gIf kIf bIf .nil pass0 (pa_cons (pv 5) pa_nil)))) (pw_or1 (pt_not (pt_val (pe_call GIf hr2 (by rfl) gIf kIf bIf .nil pass0 (pa_cons (pv 6) pa_nil))))))) (pss_one (ps_ret pe_bl)) pss_nil)
      (pss_cons (ps_if (PW.pt (pw_or (pt_cmpR op_ne (pe_call GAf hr (by rfl) gAf kAf bAf .nil pass0 (pa_cons (pe_call GLa hr (by rfl) gLa kLa bLa .nil pass0 (pa_cons (pv 3) (pa_cons (pv 5) pa_nil))) pa_nil)) (pv 6) (nomark _)) (pw_or1 (pt_cmpR op_ne (pe_call GAf hr (by rfl) gAf kAf bAf .nil pass0 (pa_cons (pe_call GLa hr (by rfl) gLa kLa bLa .nil pass0 (pa_cons (pv 4) (pa_cons (pe_call GAf hr (by rfl) gAf kAf bAf .nil pass0 (pa_cons (pe_call GLa hr (by rfl) gLa kLa bLa .nil pass0 (pa_cons (pv 3) (pa_cons (pv 1) pa_nil))) pa_nil)) pa_nil))) pa_nil)) (pv 6) (nomark _))))) (pss_one (ps_ret pe_bl)) pss_nil)
      (pss_cons (ps_if (pt_cmpR op_eq (pe_op op_mod (pe_callB call_abs (by rfl) mA boot_abs (pa_cons (pe_call GCe hr1 (by rfl) gCe kCe bCe .nil pass0 (pa_cons (pv 0) (pa_cons pe_int pa_nil))) pa_nil)) pe_int) pe_int (nomark _)) (pss_cons (ps_if (PW.pt (pw_or (pt_cmpR op_ne (pe_call GAf hr (by rfl) gAf kAf bAf .nil pass0 (pa_cons (pe_call GLa hr (by rfl) gLa kLa bLa .nil pass0 (pa_cons pe_int (pa_cons (pv 1) pa_nil))) pa_nil)) (pv 1) (nomark _)) (pw_or1 (pt_cmpR op_ne (pe_call GAf hr (by rfl) gAf kAf bAf .nil pass0 (pa_cons (pe_call GLa hr (by rfl) gLa kLa bLa .nil pass0 (pa_cons pe_int (pa_cons (pv 1) pa_nil))) pa_nil)) pe_int (nomark _))))) (pss_one (ps_ret pe_bl)) pss_nil)
        (pss_one (ps_if (PW.pt (pw_and (pt_cmpR op_lt (pv 2) pe_int (nomark _)) (pw_and1 (pt_cmpR op_ne (pe_call GAf hr (by rfl) gAf kAf bAf .nil pass0 (pa_cons (pe_call GDb hr2 (by rfl) gDb kDb bDb .nil pass0 (pa_cons (pe_call GLa hr (by rfl) gLa kLa bLa .nil pass0 (pa_cons (pv 3) (pa_cons (pv 1) pa_nil))) pa_nil)) pa_nil)) (pe_call GAf hr (by rfl) gAf kAf bAf .nil pass0 (pa_cons (pe_call GLa hr (by rfl) gLa kLa bLa .nil pass0 (pa_cons (pe_op op_mul pe_int (pv 3)) (pa_cons (pv 1) pa_nil))) pa_nil)) (nomark _))))) (pss_one (ps_ret pe_bl)) pss_nil))) pss_nil)
      (pss_one (ps_ret (pe_or (pe_cmpR op_eq (pv 6) pe_int (nomark _)) (pe_one (pe_cmpR op_eq (pe_call GCu hr (by rfl) gCu kCu bCu .nil pass0 (pa_cons (pv 6) pa_nil)) (pe_call GCu hr (by rfl) gCu kCu bCu .nil pass0 (pa_cons (pv 1) pa_nil)) (nomark _)))))))))))))), ?_⟩
    -- the point
    refine ⟨_, rfl, a, ns, 0, rfl, hS, fun c0 => ⟨c0, rfl, fun H1 u s1 hu => ?_⟩⟩
    have hS1 := s1.seq hS
    -- the bits
    refine ⟨_, rfl, a, ns, 1, rfl, hS1, fun c1 => ⟨c1, rfl, _, _, rfl, rfl, (by show (0 : Int) < 256; decide), ?_⟩⟩
    generalize (if c1 < 0 then -c1 else c1) = r1
    obtain ⟨b, hb⟩ : ∃ b : Nat, r1 % 256 = (b : Int) := ⟨(r1 % 256).toNat, by omega⟩
    have hb5 : b ≤ 255 := by omega
    -- the numbers m and n
    refine ⟨_, rfl, a, ns, 2, rfl, hS1, fun c2 => ⟨_, rfl, c2, 1, b, ?_, hb5, fun m hm => ?_⟩⟩
    · show [V.int c2, V.int 1, V.int (r1 % 256)] = [V.int c2, V.int 1, V.int (b : Int)]
      rw [hb]
    refine ⟨_, rfl, a, ns, 3, rfl, hS1, fun c3 => ⟨_, rfl, _, _, rfl, rfl, c3, 2, 255 - b, ?_, Nat.sub_le _ _, fun n hn => ?_⟩⟩
    · show [V.int c3, V.int 2, V.int (255 - r1 % 256)] = [V.int c3, V.int 2, V.int ((255 - b : Nat) : Int)]
      have e : 255 - r1 % 256 = ((255 - b : Nat) : Int) := by omega
      rw [e]
    have hm5 := lt_255 hm hb5
    have hn5 := lt_255 hn (Nat.sub_le 255 b)
    have hmn := prod_255 hm hn hb5
    -- once, whole
    refine ⟨_, rfl, _, rfl, n, u, rfl, hu, fun H2 t2 s2 e2 => ⟨t2, _, rfl, e2, low_in hu n, ?_⟩⟩
    refine ⟨_, rfl, _, rfl, _, _, rfl, rfl, wide_mul (nat_abs hm (by omega)) (nat_abs hn (by omega)) (by decide) (by decide) (by decide), _, rfl, m * n, u, ?_, hu, fun H3 t3 s3 e3 => ⟨t3, _, rfl, e3, low_in hu (m * n), ?_⟩⟩
    · show [V.int ((m : Int) * (n : Int)), V.int u] = [V.int ((m * n : Nat) : Int), V.int u]
      rw [Int.natCast_mul]
    have k1 := comp_int u hm5 hn5 hmn
    have k2 := comp_int u hn5 hm5 (by rw [Nat.mul_comm]; exact hmn)
    rw [Nat.mul_comm] at k2
    have k3 := one_int hu
    have k4 := zero_int u
    have k5 : b < 255 → affI (dblI (lowI m u)) = affI (lowI (2 * m) u) := fun h => dbl_int u (dbl_255 hm h)
    have k6 := side_int u hmn
    have ho : Fn (affI (lowI n u)) := affI_in _
    have hw : Fn (affI (lowI (m * n) u)) := affI_in _
    have hS3 := s3.seq (s2.seq hS1)
    -- both are field numbers
    refine ⟨_, rfl, _, rfl, ho, true, rfl, iteF ?_⟩
    refine ⟨_, rfl, _, rfl, hw, true, rfl, iteF ?_⟩
    -- the two ways
    refine ⟨_, rfl, _, rfl, m, affI (lowI n u), rfl, ho, fun H4 t4 s4 e4 => ⟨t4, _, rfl, e4, low_in ho m, _, rfl, rfl, _, rfl, iteNS (by rw [k1]) ?_⟩⟩
    refine ⟨_, rfl, _, rfl, _, rfl, m, u, rfl, hu, fun H5 t5 s5 e5 => ⟨t5, _, rfl, e5, low_in hu m, n, affI (lowI m u), rfl, affI_in _, fun H6 t6 s6 e6 => ⟨t6, _, rfl, e6, low_in (affI_in _) n, _, rfl, rfl, _, rfl, iteNS (by rw [k2]) ?_⟩⟩⟩
    have hS6 := s6.seq (s5.seq (s4.seq hS3))
    -- the last row
    have q2 : ∀ H' : Hp, Q (.bl (decide (V.int (curveI u) = V.int (curveI u)))) H' := fun H' => by
      rw [decide_eq_true rfl]
      exact q H'
    refine ⟨_, rfl, a, ns, 4, rfl, hS6, fun c4 => ⟨c4, rfl, _, _, rfl, rfl, (by show (0 : Int) < 4; decide), rfl, _, rfl, ite2 (fun _ => ?_) (fun _ => ?_)⟩⟩
    · refine ⟨_, rfl, 1, u, rfl, hu, fun H7 t7 s7 e7 => ⟨t7, _, rfl, e7, low_in hu 1, _, rfl, rfl, _, rfl, iteNS (by rw [k3]) ?_⟩⟩
      refine ⟨_, rfl, 0, u, rfl, hu, fun H8 t8 s8 e8 => ⟨t8, _, rfl, e8, low_in hu 0, rfl, _, rfl, iteNS (by rw [k4]) ?_⟩⟩
      refine ⟨_, rfl, _, _, rfl, rfl, _, rfl, ite2 (fun e => ?_) (fun e => ?_)⟩
      · have hlt : b < 255 := by
          have h := of_decide_eq_true e
          omega
        refine ⟨_, rfl, _, rfl, m, u, rfl, hu, fun H9 t9 s9 e9 => ⟨t9, _, rfl, e9, low_in hu m, fun H10 t10 s10 e10 => ⟨t10, _, rfl, e10, dblI_in _, ?_⟩⟩⟩
        refine ⟨_, rfl, _, _, rfl, rfl, .inl ⟨by decide, by decide⟩, _, rfl, 2 * m, u, ?_, hu, fun H11 t11 s11 e11 => ⟨t11, _, rfl, e11, low_in hu (2 * m), rfl, _, rfl, iteNS (by rw [k5 hlt]) ?_⟩⟩
        · show [V.int (2 * (m : Int)), V.int u] = [V.int ((2 * m : Nat) : Int), V.int u]
          rw [Int.natCast_mul]
          rfl
        refine ⟨_, rfl, rfl, _, rfl, ite2 (fun _ => q _) (fun ez => ?_)⟩
        refine ⟨_, rfl, _, rfl, hw, _, rfl, u, rfl, hu, rfl, ?_⟩
        have e6 := k6 (fun z => ez (decide_eq_true (by rw [z])))
        rw [e6]
        exact q2 _
      · refine iteF ?_
        refine ⟨_, rfl, rfl, _, rfl, ite2 (fun _ => q _) (fun ez => ?_)⟩
        refine ⟨_, rfl, _, rfl, hw, _, rfl, u, rfl, hu, rfl, ?_⟩
        have e6 := k6 (fun z => ez (decide_eq_true (by rw [z])))
        rw [e6]
        exact q2 _
    · refine ⟨_, rfl, rfl, _, rfl, ite2 (fun _ => q _) (fun ez => ?_)⟩
      refine ⟨_, rfl, _, rfl, hw, _, rfl, u, rfl, hu, rfl, ?_⟩
      have e6 := k6 (fun z => ez (decide_eq_true (by rw [z])))
      rw [e6]
      exact q2 _
end
end K12
namespace K12
open PySem PySem.Spec PyProof.Rows L2
/-! ### what the top has written; the law's own head -/
set_option maxHeartbeats 4000000 in
theorem all_mk {l : PySem.W.OpenLaw} {w : World} {K : PySem.W.Frag} {h : Heap} {mg : Str → Option Value} {fa f0 f1 f2 f3 f4 f5 f6 f7 f8 f9 f10 f11 f12 f13 f14 f15 f16 f17 f18 : Addr} (X : K.In h) (G : h.Ns mainGlobals mg) (hfa : mg "law" = some (.ref fa))
    {od0 an0 od1 an1 od2 an2 od3 an3 od4 an4 od5 an5 od6 an6 od7 an7 od8 an8 od9 an9 od10 an10 od11 an11 od12 an12 od13 an13 od14 an14 od15 an15 od16 an16 od17 an17 od18 an18 : Option Addr} {sl0 sl1 sl2 sl3 sl4 sl5 sl6 sl7 sl8 sl9 sl10 sl11 sl12 sl13 sl14 sl15 sl16 sl17 sl18 : Array (Option Value)} {oc0 kV0 dc0 pm0 cd0 ct0 oc1 kV1 dc1 pm1 cd1 ct1 oc2 kV2 dc2 pm2 cd2 ct2 oc3 kV3 dc3 pm3 cd3 ct3 oc4 kV4 dc4 pm4 cd4 ct4 oc5 kV5 dc5 pm5 cd5 ct5 oc6 kV6 dc6 pm6 cd6 ct6 oc7 kV7 dc7 pm7 cd7 ct7 oc8 kV8 dc8 pm8 cd8 ct8 oc9 kV9 dc9 pm9 cd9 ct9 oc10 kV10 dc10 pm10 cd10 ct10 oc11 kV11 dc11 pm11 cd11 ct11 oc12 kV12 dc12 pm12 cd12 ct12 oc13 kV13 dc13 pm13 cd13 ct13 oc14 kV14 dc14 pm14 cd14 ct14 oc15 kV15 dc15 pm15 cd15 ct15 oc16 kV16 dc16 pm16 cd16 ct16 oc17 kV17 dc17 pm17 cd17 ct17 oc18 kV18 dc18 pm18 cd18 ct18 : Value} {tP tA : Tok}
    (a0 : PySem.W.nsIn K mainGlobals "add" = some (some (.ref f0))) (l0 : K.lookup f0 = some ⟨oc0, od0, .func (PySem.W.fnOf "add" "add" (defArgs sAdd) (defBody sAdd) (defScope sAdd) .none kV0 dc0 pm0 an0 cd0 ct0), sl0⟩) (c0 : PySem.W.codeIn K cd0 "add" = true) (k0 : PySem.W.keepIn K (.ref f0) = true)
    (a1 : PySem.W.nsIn K mainGlobals "subtract" = some (some (.ref f1))) (l1 : K.lookup f1 = some ⟨oc1, od1, .func (PySem.W.fnOf "subtract" "subtract" (defArgs sSub) (defBody sSub) (defScope sSub) .none kV1 dc1 pm1 an1 cd1 ct1), sl1⟩) (c1 : PySem.W.codeIn K cd1 "subtract" = true) (k1 : PySem.W.keepIn K (.ref f1) = true)
    (a2 : PySem.W.nsIn K mainGlobals "multiply" = some (some (.ref f2))) (l2 : K.lookup f2 = some ⟨oc2, od2, .func (PySem.W.fnOf "multiply" "multiply" (defArgs sMul) (defBody sMul) (defScope sMul) .none kV2 dc2 pm2 an2 cd2 ct2), sl2⟩) (c2 : PySem.W.codeIn K cd2 "multiply" = true) (k2 : PySem.W.keepIn K (.ref f2) = true)
    (a3 : PySem.W.nsIn K mainGlobals "power" = some (some (.ref f3))) (l3 : K.lookup f3 = some ⟨oc3, od3, .func (PySem.W.fnOf "power" "power" (defArgs sPow) (defBody sPow) (defScope sPow) .none kV3 dc3 pm3 an3 cd3 ct3), sl3⟩) (c3 : PySem.W.codeIn K cd3 "power" = true) (k3 : PySem.W.keepIn K (.ref f3) = true)
    (a4 : PySem.W.nsIn K mainGlobals "invert" = some (some (.ref f4))) (l4 : K.lookup f4 = some ⟨oc4, od4, .func (PySem.W.fnOf "invert" "invert" (defArgs sInv) (defBody sInv) (defScope sInv) .none kV4 dc4 pm4 an4 cd4 ct4), sl4⟩) (c4 : PySem.W.codeIn K cd4 "invert" = true) (k4 : PySem.W.keepIn K (.ref f4) = true)
    (a5 : PySem.W.nsIn K mainGlobals "square_class" = some (some (.ref f5))) (l5 : K.lookup f5 = some ⟨oc5, od5, .func (PySem.W.fnOf "square_class" "square_class" (defArgs sChi) (defBody sChi) (defScope sChi) .none kV5 dc5 pm5 an5 cd5 ct5), sl5⟩) (c5 : PySem.W.codeIn K cd5 "square_class" = true) (k5 : PySem.W.keepIn K (.ref f5) = true)
    (a6 : PySem.W.nsIn K mainGlobals "double" = some (some (.ref f6))) (l6 : K.lookup f6 = some ⟨oc6, od6, .func (PySem.W.fnOf "double" "double" (defArgs sDbl) (defBody sDbl) (defScope sDbl) .none kV6 dc6 pm6 an6 cd6 ct6), sl6⟩) (c6 : PySem.W.codeIn K cd6 "double" = true) (k6 : PySem.W.keepIn K (.ref f6) = true)
    (a7 : PySem.W.nsIn K mainGlobals "add_points" = some (some (.ref f7))) (l7 : K.lookup f7 = some ⟨oc7, od7, .func (PySem.W.fnOf "add_points" "add_points" (defArgs sAdp) (defBody sAdp) (defScope sAdp) .none kV7 dc7 pm7 an7 cd7 ct7), sl7⟩) (c7 : PySem.W.codeIn K cd7 "add_points" = true) (k7 : PySem.W.keepIn K (.ref f7) = true)
    (a8 : PySem.W.nsIn K mainGlobals "ladder" = some (some (.ref f8))) (l8 : K.lookup f8 = some ⟨oc8, od8, .func (PySem.W.fnOf "ladder" "ladder" (defArgs sLad) (defBody sLad) (defScope sLad) .none kV8 dc8 pm8 an8 cd8 ct8), sl8⟩) (c8 : PySem.W.codeIn K cd8 "ladder" = true) (k8 : PySem.W.keepIn K (.ref f8) = true)
    (a9 : PySem.W.nsIn K mainGlobals "affine" = some (some (.ref f9))) (l9 : K.lookup f9 = some ⟨oc9, od9, .func (PySem.W.fnOf "affine" "affine" (defArgs sAff) (defBody sAff) (defScope sAff) .none kV9 dc9 pm9 an9 cd9 ct9), sl9⟩) (c9 : PySem.W.codeIn K cd9 "affine" = true) (k9 : PySem.W.keepIn K (.ref f9) = true)
    (a10 : PySem.W.nsIn K mainGlobals "curve_side" = some (some (.ref f10))) (l10 : K.lookup f10 = some ⟨oc10, od10, .func (PySem.W.fnOf "curve_side" "curve_side" (defArgs sCur) (defBody sCur) (defScope sCur) .none kV10 dc10 pm10 an10 cd10 ct10), sl10⟩) (c10 : PySem.W.codeIn K cd10 "curve_side" = true) (k10 : PySem.W.keepIn K (.ref f10) = true)
    (a11 : PySem.W.nsIn K mainGlobals "_law_cell" = some (some (.ref f11))) (l11 : K.lookup f11 = some ⟨oc11, od11, .func (PySem.W.fnOf "_law_cell" "_law_cell" (defArgs sCell) (defBody sCell) (defScope sCell) .none kV11 dc11 pm11 an11 cd11 ct11), sl11⟩) (c11 : PySem.W.codeIn K cd11 "_law_cell" = true) (k11 : PySem.W.keepIn K (.ref f11) = true)
    (a12 : PySem.W.nsIn K mainGlobals "_law_is_integer" = some (some (.ref f12))) (l12 : K.lookup f12 = some ⟨oc12, od12, .func (PySem.W.fnOf "_law_is_integer" "_law_is_integer" (defArgs sIsI) (defBody sIsI) (defScope sIsI) .none kV12 dc12 pm12 an12 cd12 ct12), sl12⟩) (c12 : PySem.W.codeIn K cd12 "_law_is_integer" = true) (k12 : PySem.W.keepIn K (.ref f12) = true)
    (a13 : PySem.W.nsIn K mainGlobals "_law_prime" = some (some (.ref f13))) (l13 : K.lookup f13 = some ⟨oc13, od13, .func (PySem.W.fnOf "_law_prime" "_law_prime" (defArgs sPrm) (defBody sPrm) (defScope sPrm) .none kV13 dc13 pm13 an13 cd13 ct13), sl13⟩) (c13 : PySem.W.codeIn K cd13 "_law_prime" = true) (k13 : PySem.W.keepIn K (.ref f13) = true)
    (a14 : PySem.W.nsIn K mainGlobals "_law_number" = some (some (.ref f14))) (l14 : K.lookup f14 = some ⟨oc14, od14, .func (PySem.W.fnOf "_law_number" "_law_number" (defArgs sNum) (defBody sNum) (defScope sNum) .none kV14 dc14 pm14 an14 cd14 ct14), sl14⟩) (c14 : PySem.W.codeIn K cd14 "_law_number" = true) (k14 : PySem.W.keepIn K (.ref f14) = true)
    (a15 : PySem.W.nsIn K mainGlobals "_law_point" = some (some (.ref f15))) (l15 : K.lookup f15 = some ⟨oc15, od15, .func (PySem.W.fnOf "_law_point" "_law_point" (defArgs sPnt) (defBody sPnt) (defScope sPnt) .none kV15 dc15 pm15 an15 cd15 ct15), sl15⟩) (c15 : PySem.W.codeIn K cd15 "_law_point" = true) (k15 : PySem.W.keepIn K (.ref f15) = true)
    (a16 : PySem.W.nsIn K mainGlobals "_law_natural" = some (some (.ref f16))) (l16 : K.lookup f16 = some ⟨oc16, od16, .func (PySem.W.fnOf "_law_natural" "_law_natural" (defArgs sNat) (defBody sNat) (defScope sNat) .none kV16 dc16 pm16 an16 cd16 ct16), sl16⟩) (c16 : PySem.W.codeIn K cd16 "_law_natural" = true) (k16 : PySem.W.keepIn K (.ref f16) = true)
    (a17 : PySem.W.nsIn K mainGlobals "_law_is_field_number" = some (some (.ref f17))) (l17 : K.lookup f17 = some ⟨oc17, od17, .func (PySem.W.fnOf "_law_is_field_number" "_law_is_field_number" (defArgs sIsF) (defBody sIsF) (defScope sIsF) .none kV17 dc17 pm17 an17 cd17 ct17), sl17⟩) (c17 : PySem.W.codeIn K cd17 "_law_is_field_number" = true) (k17 : PySem.W.keepIn K (.ref f17) = true)
    (a18 : PySem.W.nsIn K mainGlobals "law" = some (some (.ref f18))) (l18 : K.lookup f18 = some ⟨oc18, od18, .func (PySem.W.fnOf "law" "law" (defArgs sLaw) (defBody sLaw) (defScope sLaw) .none kV18 dc18 pm18 an18 cd18 ct18), sl18⟩) (c18 : PySem.W.codeIn K cd18 "law" = true) (k18 : PySem.W.keepIn K (.ref f18) = true)
    (pP : PySem.W.nsIn K mainGlobals "PRIME" = some (some (.int 57896044618658097711785492504343953926634992332820282019728792003956564819949 tP))) (pA : PySem.W.nsIn K mainGlobals "A24" = some (some (.int 121665 tA)))
    (z0 : PySem.W.nsIn K mainGlobals "len" = some none) (z1 : PySem.W.nsIn K mainGlobals "isinstance" = some none) (z2 : PySem.W.nsIn K mainGlobals "int" = some none) (z3 : PySem.W.nsIn K mainGlobals "bool" = some none) (z4 : PySem.W.nsIn K mainGlobals "abs" = some none) (z5 : PySem.W.nsIn K mainGlobals "range" = some none) :
    ∃ fd : FuncData, (∀ (s : Shared) (v : Value), BindsTo s fd ⟨[v], []⟩ [("_law_script", v)]) ∧ ∀ base : Heap, K.In base → base.Ns mainGlobals mg → FnOk l.prog w K mg base CX0 4 fa fd ["_law_script"] (spLaw K) := by
  have e := hfa.symm.trans (PySem.W.mg_of X G a18)
  cases e
  have F0 := fun_mk (st := sAdd) l0 c0 k0
  have b0 := F0.binds (ps := ["a", "b"]) fun _ _ _ _ _ _ us hl => match us, hl with | [_, _], _ => rfl
  have g0 := PySem.W.mg_of X G a0
  have F1 := fun_mk (st := sSub) l1 c1 k1
  have b1 := F1.binds (ps := ["a", "b"]) fun _ _ _ _ _ _ us hl => match us, hl with | [_, _], _ => rfl
  have g1 := PySem.W.mg_of X G a1
  have F2 := fun_mk (st := sMul) l2 c2 k2
  have b2 := F2.binds (ps := ["a", "b"]) fun _ _ _ _ _ _ us hl => match us, hl with | [_, _], _ => rfl
  have g2 := PySem.W.mg_of X G a2
  have F3 := fun_mk (st := sPow) l3 c3 k3
  have b3 := F3.binds (ps := ["a", "n"]) fun _ _ _ _ _ _ us hl => match us, hl with | [_, _], _ => rfl
  have g3 := PySem.W.mg_of X G a3
  have F4 := fun_mk (st := sInv) l4 c4 k4
  have b4 := F4.binds (ps := ["a"]) fun _ _ _ _ _ _ us hl => match us, hl with | [_], _ => rfl
  have g4 := PySem.W.mg_of X G a4
  have F5 := fun_mk (st := sChi) l5 c5 k5
  have b5 := F5.binds (ps := ["a"]) fun _ _ _ _ _ _ us hl => match us, hl with | [_], _ => rfl
  have g5 := PySem.W.mg_of X G a5
  have F6 := fun_mk (st := sDbl) l6 c6 k6
  have b6 := F6.binds (ps := ["point"]) fun _ _ _ _ _ _ us hl => match us, hl with | [_], _ => rfl
  have g6 := PySem.W.mg_of X G a6
  have F7 := fun_mk (st := sAdp) l7 c7 k7
  have b7 := F7.binds (ps := ["low", "high", "u"]) fun _ _ _ _ _ _ us hl => match us, hl with | [_, _, _], _ => rfl
  have g7 := PySem.W.mg_of X G a7
  have F8 := fun_mk (st := sLad) l8 c8 k8
  have b8 := F8.binds (ps := ["n", "u"]) fun _ _ _ _ _ _ us hl => match us, hl with | [_, _], _ => rfl
  have g8 := PySem.W.mg_of X G a8
  have F9 := fun_mk (st := sAff) l9 c9 k9
  have b9 := F9.binds (ps := ["point"]) fun _ _ _ _ _ _ us hl => match us, hl with | [_], _ => rfl
  have g9 := PySem.W.mg_of X G a9
  have F10 := fun_mk (st := sCur) l10 c10 k10
  have b10 := F10.binds (ps := ["u"]) fun _ _ _ _ _ _ us hl => match us, hl with | [_], _ => rfl
  have g10 := PySem.W.mg_of X G a10
  have F11 := fun_mk (st := sCell) l11 c11 k11
  have b11 := F11.binds (ps := ["_law_script", "_law_k"]) fun _ _ _ _ _ _ us hl => match us, hl with | [_, _], _ => rfl
  have g11 := PySem.W.mg_of X G a11
  have F12 := fun_mk (st := sIsI) l12 c12 k12
  have b12 := F12.binds (ps := ["_law_actual"]) fun _ _ _ _ _ _ us hl => match us, hl with | [_], _ => rfl
  have g12 := PySem.W.mg_of X G a12
  have F13 := fun_mk (st := sPrm) l13 c13 k13
  have b13 := F13.binds (ps := []) fun _ _ _ _ _ _ us hl => match us, hl with | [], _ => rfl
  have g13 := PySem.W.mg_of X G a13
  have F14 := fun_mk (st := sNum) l14 c14 k14
  have b14 := F14.binds (ps := ["_law_cell_here"]) fun _ _ _ _ _ _ us hl => match us, hl with | [_], _ => rfl
  have g14 := PySem.W.mg_of X G a14
  have F15 := fun_mk (st := sPnt) l15 c15 k15
  have b15 := F15.binds (ps := ["_law_cell_here"]) fun _ _ _ _ _ _ us hl => match us, hl with | [_], _ => rfl
  have g15 := PySem.W.mg_of X G a15
  have F16 := fun_mk (st := sNat) l16 c16 k16
  have b16 := F16.binds (ps := ["_law_cell_here", "_law_salt", "_law_bits"]) fun _ _ _ _ _ _ us hl => match us, hl with | [_, _, _], _ => rfl
  have g16 := PySem.W.mg_of X G a16
  have F17 := fun_mk (st := sIsF) l17 c17 k17
  have b17 := F17.binds (ps := ["_law_actual"]) fun _ _ _ _ _ _ us hl => match us, hl with | [_], _ => rfl
  have g17 := PySem.W.mg_of X G a17
  have F18 := fun_mk (st := sLaw) l18 c18 k18
  have mP : mg "PRIME" = some (.int PI tP) := PySem.W.mg_of X G pP
  have mA : mg "A24" = some (.int 121665 tA) := PySem.W.mg_of X G pA
  have m0 : mg "len" = none := PySem.W.mg_none_of X G z0
  have m1 : mg "isinstance" = none := PySem.W.mg_none_of X G z1
  have m2 : mg "int" = none := PySem.W.mg_none_of X G z2
  have m3 : mg "bool" = none := PySem.W.mg_none_of X G z3
  have m4 : mg "abs" = none := PySem.W.mg_none_of X G z4
  have m5 : mg "range" = none := PySem.W.mg_none_of X G z5
  refine ⟨PySem.W.fnOf "law" "law" (defArgs sLaw) (defBody sLaw) (defScope sLaw) .none kV18 dc18 pm18 an18 cd18 ct18, fun s v => .of_eq rfl, fun base _ _ => ?_⟩
  have C0 : Cal l.prog w K mg base "add" 1 ["a", "b"] spAdd := ⟨_, _, ok_add F0 mP, g0, k0, b0⟩
  have C1 : Cal l.prog w K mg base "subtract" 1 ["a", "b"] spSub := ⟨_, _, ok_sub F1 mP, g1, k1, b1⟩
  have C2 : Cal l.prog w K mg base "multiply" 1 ["a", "b"] spMul := ⟨_, _, ok_mul F2 mP, g2, k2, b2⟩
  have C3 : Cal l.prog w K mg base "power" 1 ["a", "n"] spPow := ⟨_, _, ok_pow F3 mP, g3, k3, b3⟩
  have C4 : Cal l.prog w K mg base "invert" 2 ["a"] spInv := ⟨_, _, ok_inv F4 mP C3, g4, k4, b4⟩
  have C5 : Cal l.prog w K mg base "square_class" 2 ["a"] spChi := ⟨_, _, ok_chi F5 mP C3, g5, k5, b5⟩
  have C6 : Cal l.prog w K mg base "double" 2 ["point"] spDbl := ⟨_, _, ok_dbl F6 mA C0 C1 C2, g6, k6, b6⟩
  have C7 : Cal l.prog w K mg base "add_points" 2 ["low", "high", "u"] spAdp := ⟨_, _, ok_adp F7 C0 C1 C2, g7, k7, b7⟩
  have C8 : Cal l.prog w K mg base "ladder" 3 ["n", "u"] spLad := ⟨_, _, ok_lad F8 m5 C6 C7, g8, k8, b8⟩
  have C9 : Cal l.prog w K mg base "affine" 3 ["point"] spAff := ⟨_, _, ok_aff F9 C4 C2, g9, k9, b9⟩
  have C10 : Cal l.prog w K mg base "curve_side" 3 ["u"] spCur := ⟨_, _, ok_cur F10 C5, g10, k10, b10⟩
  have C11 : Cal l.prog w K mg base "_law_cell" 1 ["_law_script", "_law_k"] (spCell K) := ⟨_, _, ok_cell F11 m0, g11, k11, b11⟩
  have C12 : Cal l.prog w K mg base "_law_is_integer" 1 ["_law_actual"] spIsI := ⟨_, _, ok_isI F12 m1 m2 m3, g12, k12, b12⟩
  have C13 : Cal l.prog w K mg base "_law_prime" 1 [] spPrm := ⟨_, _, ok_prm F13 , g13, k13, b13⟩
  have C14 : Cal l.prog w K mg base "_law_number" 2 ["_law_cell_here"] spNum := ⟨_, _, ok_num F14 m4 m5 C13, g14, k14, b14⟩
  have C15 : Cal l.prog w K mg base "_law_point" 3 ["_law_cell_here"] spPnt := ⟨_, _, ok_pnt F15 m4 C13 C14, g15, k15, b15⟩
  have C16 : Cal l.prog w K mg base "_law_natural" 1 ["_law_cell_here", "_law_salt", "_law_bits"] spNat := ⟨_, _, ok_nat F16 m4 m5, g16, k16, b16⟩
  have C17 : Cal l.prog w K mg base "_law_is_field_number" 2 ["_law_actual"] spIsF := ⟨_, _, ok_isF F17 C12 C13, g17, k17, b17⟩
  exact ok_law F18 m4 C15 C11 C16 C8 C9 C6 C17 C10
end K12
open PySem PySem.W PyProof.Rows
set_option maxRecDepth 100000 in
set_option maxHeartbeats 0 in
theorem PySem.Challenge.cw_hushlink_k12_whole_ladder_multiplies_holds : PySem.Challenge.rw_hushlink_k12_whole_ladder_multiplies.Holds := by
  w_on; o_law; k_head; (case hw => w_witness2)
  k_fill
  refine L2.walk_of (l := PySem.Challenge.rw_hushlink_k12_whole_ladder_multiplies) (n := 63) (k := 4) (x := "_law_script") (CX := fun _ => L2.CX0) (sp := fun w => K12.spLaw _) rfl (by decide) rfl ⟨rfl, by decide, by decide⟩ (fun w h Y => PySem.W.kIn_of Y) ?F (fun _ _ a ns hl _ hS => ⟨a, ns, rfl, hS, hl, fun _ => rfl⟩) (fun _ _ _ _ _ h => h)
  case F =>
    intro w mg fa h KX G hmg
    refine' K12.all_mk KX G hmg ?a0 ?l0 ?c0 ?k0 ?a1 ?l1 ?c1 ?k1 ?a2 ?l2 ?c2 ?k2 ?a3 ?l3 ?c3 ?k3 ?a4 ?l4 ?c4 ?k4 ?a5 ?l5 ?c5 ?k5 ?a6 ?l6 ?c6 ?k6 ?a7 ?l7 ?c7 ?k7 ?a8 ?l8 ?c8 ?k8 ?a9 ?l9 ?c9 ?k9 ?a10 ?l10 ?c10 ?k10 ?a11 ?l11 ?c11 ?k11 ?a12 ?l12 ?c12 ?k12 ?a13 ?l13 ?c13 ?k13 ?a14 ?l14 ?c14 ?k14 ?a15 ?l15 ?c15 ?k15 ?a16 ?l16 ?c16 ?k16 ?a17 ?l17 ?c17 ?k17 ?a18 ?l18 ?c18 ?k18 ?pP ?pA ?z0 ?z1 ?z2 ?z3 ?z4 ?z5
    (case a0 => k_is)
    (case l0 => k_is)
    (case c0 => k_is)
    (case k0 => k_is)
    (case a1 => k_is)
    (case l1 => k_is)
    (case c1 => k_is)
    (case k1 => k_is)
    (case a2 => k_is)
    (case l2 => k_is)
    (case c2 => k_is)
    (case k2 => k_is)
    (case a3 => k_is)
    (case l3 => k_is)
    (case c3 => k_is)
    (case k3 => k_is)
    (case a4 => k_is)
    (case l4 => k_is)
    (case c4 => k_is)
    (case k4 => k_is)
    (case a5 => k_is)
    (case l5 => k_is)
    (case c5 => k_is)
    (case k5 => k_is)
    (case a6 => k_is)
    (case l6 => k_is)
    (case c6 => k_is)
    (case k6 => k_is)
    (case a7 => k_is)
    (case l7 => k_is)
    (case c7 => k_is)
    (case k7 => k_is)
    (case a8 => k_is)
    (case l8 => k_is)
    (case c8 => k_is)
    (case k8 => k_is)
    (case a9 => k_is)
    (case l9 => k_is)
    (case c9 => k_is)
    (case k9 => k_is)
    (case a10 => k_is)
    (case l10 => k_is)
    (case c10 => k_is)
    (case k10 => k_is)
    (case a11 => k_is)
    (case l11 => k_is)
    (case c11 => k_is)
    (case k11 => k_is)
    (case a12 => k_is)
    (case l12 => k_is)
    (case c12 => k_is)
    (case k12 => k_is)
    (case a13 => k_is)
    (case l13 => k_is)
    (case c13 => k_is)
    (case k13 => k_is)
    (case a14 => k_is)
    (case l14 => k_is)
    (case c14 => k_is)
    (case k14 => k_is)
    (case a15 => k_is)
    (case l15 => k_is)
    (case c15 => k_is)
    (case k15 => k_is)
    (case a16 => k_is)
    (case l16 => k_is)
    (case c16 => k_is)
    (case k16 => k_is)
    (case a17 => k_is)
    (case l17 => k_is)
    (case c17 => k_is)
    (case k17 => k_is)
    (case a18 => k_is)
    (case l18 => k_is)
    (case c18 => k_is)
    (case k18 => k_is)
    (case pP => k_is)
    (case pA => k_is)
    (case z0 => k_is)
    (case z1 => k_is)
    (case z2 => k_is)
    (case z3 => k_is)
    (case z4 => k_is)
    (case z5 => k_is)
