import PyProof.Rows.All
import Wide.All
import OpenK.AllK
import Wide.FinOn
import KE.KStateDown
import KE.KExcSuper
import PyProof.ReprNest
import Lean
import HandS.ForMost
import HandS.ForExc
import HandS.Defaults
import HandS.Walk
import HandS.Zip
import HandS.Star
import HandS.Strs
import HandS.TupSets
import HandS.SortInts
import HandS.Style
import HandS.Flow
import HandS.Wide
import HandS.Conv
import HandS.TupAny
import HandS.TupLe
import HandS.IsInst
import HandS.ExcInit
import HandS.ExcIs
import HandS.Lambda
import HandS.Evl
import KE.KExcIs
import KE.KSuper
import HandS.Head0
import HandS.Head1
import HandS.Head2
import HandS.HeadEnd
import HandS.HeadHook1
import HandS.HeadHook2
import HandS.HeadHook3
import HandS.HeadHook4
import HandS.HeadWalk
import HandS.SetFor
import PySem.Challenge.RW_rightmarks_k33_whole_classes_by_lengths
set_option Elab.async false
set_option linter.all false
set_option maxRecDepth 100000
set_option maxHeartbeats 4000000
namespace RM
/-! ### greatest common divisors -/
def gcdAll (ns : List Int) : Nat := ns.foldl (fun g n => Nat.gcd g n.natAbs) 0
theorem gcdAll_snoc (ns : List Int) (n : Int) : gcdAll (ns ++ [n]) = Nat.gcd (gcdAll ns) n.natAbs := by
  unfold gcdAll
  rw [List.foldl_append]
  rfl
theorem gcd_step {a m g : Nat} (h : Nat.gcd a m = g) : Nat.gcd m (a % m) = g := by
  rw [← h, Nat.gcd_comm a m, Nat.gcd_rec m a, Nat.gcd_comm]
/-! ### sums of products -/
def dotL : List Int → List Int → Int
  | a :: r, b :: t => a * b + dotL r t
  | _, _ => 0
/-- the products, place by place -/
def prods : List Int → List Int → List Int
  | a :: r, b :: t => (a * b) :: prods r t
  | _, _ => []
theorem prods_sum : ∀ ns ms : List Int, (prods ns ms).sum = dotL ns ms
  | [], _ => rfl
  | _ :: _, [] => rfl
  | a :: r, b :: t => by
    show ((a * b) :: prods r t).sum = a * b + dotL r t
    rw [List.sum_cons, prods_sum r t]
theorem prods_get : ∀ {ns ms : List Int} {i : Nat} {x y : Int}, ns[i]? = some x → ms[i]? = some y → (prods ns ms)[i]? = some (x * y)
  | [], _, _, _, _, h, _ => by simp at h
  | _ :: _, [], _, _, _, _, h => by simp at h
  | a :: r, b :: t, 0, x, y, h, k => by
    have e1 : a = x := Option.some.inj h
    have e2 : b = y := Option.some.inj k
    rw [← e1, ← e2]
    rfl
  | a :: r, b :: t, i + 1, x, y, h, k => prods_get (ns := r) (ms := t) (i := i) h k
theorem prods_len : ∀ ns ms : List Int, (prods ns ms).length = min ns.length ms.length
  | [], ms => by simp [prods]
  | a :: r, [] => by simp [prods]
  | a :: r, b :: t => by
    show (prods r t).length + 1 = min (r.length + 1) (t.length + 1)
    rw [prods_len r t]
    omega
end RM
namespace RM
/-! ### primes -/
def Pr (p : Nat) : Prop := 2 ≤ p ∧ ∀ m, m ∣ p → m = 1 ∨ m = p
theorem Pr.two {p : Nat} (h : Pr p) : 2 ≤ p := h.1
theorem Pr.euclid {p a b : Nat} (h : Pr p) (d : p ∣ a * b) : p ∣ a ∨ p ∣ b := by
  by_cases ha : p ∣ a
  · exact .inl ha
  · refine .inr (Nat.Coprime.dvd_of_dvd_mul_left ?_ d)
    rcases h.2 _ (Nat.gcd_dvd_left p a) with e | e
    · exact e
    · exact absurd (by rw [← e]; exact Nat.gcd_dvd_right p a) ha
theorem Pr.eq {p q : Nat} (hp : Pr p) (hq : Pr q) (d : q ∣ p) : q = p := by
  rcases hp.2 q d with e | e
  · have := hq.1
    omega
  · exact e
theorem not_dvd_mod {m n : Nat} (h : ¬ m ∣ n) : ¬ n % m = 0 := fun e => h (Nat.dvd_of_mod_eq_zero e)
/-- a number from 2 on without a divisor from 2 to its root is a prime -/
theorem pr_of {r p : Nat} (h2 : 2 ≤ r) (hs : r < p * p) (hn : ∀ m, 2 ≤ m → m < p → ¬ m ∣ r) : Pr r := by
  refine ⟨h2, fun m hm => ?_⟩
  obtain ⟨k, e⟩ := hm
  have m0 : 0 < m := by
    rcases Nat.eq_zero_or_pos m with z | z
    · rw [z, Nat.zero_mul] at e
      omega
    · exact z
  have k0 : 0 < k := by
    rcases Nat.eq_zero_or_pos k with z | z
    · rw [z, Nat.mul_zero] at e
      omega
    · exact z
  by_cases h1 : m = 1
  · exact .inl h1
  · by_cases hk : k = 1
    · refine .inr ?_
      rw [hk, Nat.mul_one] at e
      exact e.symm
    · have a1 : ¬ m < p := fun z => hn m (by omega) z ⟨k, e⟩
      have a2 : ¬ k < p := fun z => hn k (by omega) z ⟨m, by rw [e, Nat.mul_comm]⟩
      have : p * p ≤ m * k := Nat.mul_le_mul (by omega) (by omega)
      omega
theorem pr_least {r : Nat} (h2 : 2 ≤ r) : ∃ q, Pr q ∧ q ∣ r := by
  induction r using Nat.strongRecOn with
  | _ r ih =>
    by_cases h : ∃ m, 2 ≤ m ∧ m < r ∧ m ∣ r
    · obtain ⟨m, a, b, c⟩ := h
      obtain ⟨q, hq, hd⟩ := ih m b a
      exact ⟨q, hq, Nat.dvd_trans hd c⟩
    · refine ⟨r, ⟨h2, fun m hm => ?_⟩, Nat.dvd_refl r⟩
      have hle := Nat.le_of_dvd (by omega) hm
      have hm0 : m ≠ 0 := fun z => by
        rw [z] at hm
        have := Nat.eq_zero_of_zero_dvd hm
        omega
      by_cases h1 : m = 1
      · exact .inl h1
      · by_cases h3 : m = r
        · exact .inr h3
        · exact absurd ⟨m, by omega, by omega, hm⟩ h
/-! ### ascending lists -/
theorem asc_ext : ∀ {l k : List Nat}, l.Pairwise (· < ·) → k.Pairwise (· < ·) → (∀ q, q ∈ l ↔ q ∈ k) → l = k
  | [], [], _, _, _ => rfl
  | [], b :: k, _, _, h => absurd ((h b).mpr List.mem_cons_self) (by simp)
  | a :: l, [], _, _, h => absurd ((h a).mp List.mem_cons_self) (by simp)
  | a :: l, b :: k, hl, hk, h => by
    obtain ⟨hl1, hl2⟩ := List.pairwise_cons.mp hl
    obtain ⟨hk1, hk2⟩ := List.pairwise_cons.mp hk
    have e : a = b := by
      rcases List.mem_cons.mp ((h a).mp List.mem_cons_self) with z | z
      · exact z
      · rcases List.mem_cons.mp ((h b).mpr List.mem_cons_self) with y | y
        · exact y.symm
        · have := hk1 a z
          have := hl1 b y
          omega
    subst e
    refine congrArg (a :: ·) (asc_ext hl2 hk2 fun q => ⟨fun z => ?_, fun z => ?_⟩)
    · rcases List.mem_cons.mp ((h q).mp (List.mem_cons_of_mem _ z)) with y | y
      · have := hl1 q z
        omega
      · exact y
    · rcases List.mem_cons.mp ((h q).mpr (List.mem_cons_of_mem _ z)) with y | y
      · have := hk1 q z
        omega
      · exact y
theorem asc_snoc {l : List Nat} {p : Nat} (h : l.Pairwise (· < ·)) (hp : ∀ q ∈ l, q < p) : (l ++ [p]).Pairwise (· < ·) := by
  refine List.pairwise_append.mpr ⟨h, List.pairwise_singleton _ _, fun a ha b hb => ?_⟩
  rw [List.mem_singleton.mp hb]
  exact hp a ha
/-! ### the prime divisors of a number, ascending -/
structure PD (n : Nat) (l : List Nat) : Prop where
  asc : l.Pairwise (· < ·)
  mem : ∀ q, q ∈ l ↔ Pr q ∧ q ∣ n
theorem PD.ext {n : Nat} {l k : List Nat} (a : PD n l) (b : PD n k) : l = k := asc_ext a.asc b.asc fun q => (a.mem q).trans (b.mem q).symm
/-- trial division: all below p is done -/
structure TD (n p : Nat) (found : List Nat) (rest : Nat) : Prop where
  n1 : 1 ≤ n
  r1 : 1 ≤ rest
  rn : rest ∣ n
  no : ∀ m, 2 ≤ m → m < p → ¬ m ∣ rest
  asc : found.Pairwise (· < ·)
  mem : ∀ q, q ∈ found ↔ Pr q ∧ q ∣ n ∧ q < p
  all : ∀ q, Pr q → q ∣ n → q < p ∨ q ∣ rest
theorem TD.start {n : Nat} (h : 1 ≤ n) : TD n 2 [] n :=
  ⟨h, h, Nat.dvd_refl n, fun m a b => by omega, List.Pairwise.nil, fun q => ⟨fun z => by simp at z, fun z => by have := z.1.1; omega⟩, fun q _ d => .inr d⟩
theorem TD.skip {n p rest : Nat} {found : List Nat} (h : TD n p found rest) (hp : 2 ≤ p) (hd : ¬ p ∣ rest) : TD n (p + 1) found rest := by
  have key : ∀ q, Pr q → q ∣ n → q < p + 1 → q < p := fun q a b c => by
    rcases h.all q a b with z | z
    · exact z
    · have e : q ≠ p := fun y => hd (by rw [← y]; exact z)
      omega
  refine ⟨h.n1, h.r1, h.rn, fun m a b => ?_, h.asc, fun q => ⟨fun z => ?_, fun z => ?_⟩, fun q a b => ?_⟩
  · by_cases e : m = p
    · rw [e]
      exact hd
    · exact h.no m a (by omega)
  · obtain ⟨a, b, c⟩ := (h.mem q).mp z
    exact ⟨a, b, by omega⟩
  · exact (h.mem q).mpr ⟨z.1, z.2.1, key q z.1 z.2.1 z.2.2⟩
  · rcases h.all q a b with z | z
    · exact .inl (by omega)
    · exact .inr z
/-- while p is taken out of rest0 -/
structure Out (p r0 r : Nat) : Prop where
  r1 : 1 ≤ r
  dvd : r ∣ r0
  keep : ∀ q, Pr q → q ≠ p → q ∣ r0 → q ∣ r
theorem Out.start {p r0 : Nat} (h : 1 ≤ r0) : Out p r0 r0 := ⟨h, Nat.dvd_refl _, fun _ _ _ d => d⟩
theorem Out.step {p r0 r : Nat} (h : Out p r0 r) (hp : Pr p) (hd : p ∣ r) : Out p r0 (r / p) := by
  obtain ⟨k, e⟩ := hd
  have p0 : 0 < p := by have := hp.1; omega
  have ek : r / p = k := by rw [e, Nat.mul_div_cancel_left _ p0]
  rw [ek]
  refine ⟨?_, Nat.dvd_trans ⟨p, by rw [e, Nat.mul_comm]⟩ h.dvd, fun q a b c => ?_⟩
  · rcases Nat.eq_zero_or_pos k with z | z
    · have := h.r1
      rw [e, z, Nat.mul_zero] at this
      omega
    · exact z
  · have := h.keep q a b c
    rw [e] at this
    rcases a.euclid this with z | z
    · exact absurd (hp.eq a z) b
    · exact z
theorem TD.prime {n p rest : Nat} {found : List Nat} (h : TD n p found rest) (hp : 2 ≤ p) (hd : p ∣ rest) : Pr p := by
  refine ⟨hp, fun m hm => ?_⟩
  have hle := Nat.le_of_dvd (by omega) hm
  have hm0 : m ≠ 0 := fun z => by
    rw [z] at hm
    have := Nat.eq_zero_of_zero_dvd hm
    omega
  by_cases h1 : m = 1
  · exact .inl h1
  · by_cases h3 : m = p
    · exact .inr h3
    · exact absurd (Nat.dvd_trans hm hd) (h.no m (by omega) (by omega))
theorem TD.take {n p rest r : Nat} {found : List Nat} (h : TD n p found rest) (hp : 2 ≤ p) (hd : p ∣ rest) (o : Out p rest r) (hr : ¬ p ∣ r) : TD n (p + 1) (found ++ [p]) r := by
  have pp := h.prime hp hd
  refine ⟨h.n1, o.r1, Nat.dvd_trans o.dvd h.rn, fun m a b => ?_, asc_snoc h.asc fun q hq => ((h.mem q).mp hq).2.2, fun q => ⟨fun z => ?_, fun z => ?_⟩, fun q a b => ?_⟩
  · by_cases e : m = p
    · rw [e]
      exact hr
    · exact fun z => h.no m a (by omega) (Nat.dvd_trans z o.dvd)
  · rcases List.mem_append.mp z with z | z
    · obtain ⟨a, b, c⟩ := (h.mem q).mp z
      exact ⟨a, b, by omega⟩
    · rw [List.mem_singleton.mp z]
      exact ⟨pp, Nat.dvd_trans hd h.rn, by omega⟩
  · by_cases e : q = p
    · rw [e]
      simp
    · exact List.mem_append_left _ ((h.mem q).mpr ⟨z.1, z.2.1, by have := z.2.2; omega⟩)
  · rcases h.all q a b with z | z
    · exact .inl (by omega)
    · by_cases e : q = p
      · exact .inl (by omega)
      · exact .inr (o.keep q a e z)
/-- the end: what is left is 1 or a prime -/
theorem TD.done {n p rest : Nat} {found : List Nat} (h : TD n p found rest) (hs : rest < p * p) : PD n (if 1 < rest then found ++ [rest] else found) := by
  by_cases h1 : 1 < rest
  · rw [if_pos h1]
    have pr : Pr rest := pr_of h1 hs h.no
    have big : ∀ q ∈ found, q < rest := fun q hq => by
      have a := ((h.mem q).mp hq).2.2
      have b : ¬ rest < p := fun z => h.no rest h1 z (Nat.dvd_refl _)
      omega
    refine ⟨asc_snoc h.asc big, fun q => ⟨fun z => ?_, fun z => ?_⟩⟩
    · rcases List.mem_append.mp z with z | z
      · obtain ⟨a, b, _⟩ := (h.mem q).mp z
        exact ⟨a, b⟩
      · rw [List.mem_singleton.mp z]
        exact ⟨pr, h.rn⟩
    · rcases h.all q z.1 z.2 with y | y
      · exact List.mem_append_left _ ((h.mem q).mpr ⟨z.1, z.2, y⟩)
      · rw [pr.eq z.1 y]
        simp
  · rw [if_neg h1]
    have e : rest = 1 := by have := h.r1; omega
    refine ⟨h.asc, fun q => ⟨fun z => ?_, fun z => ?_⟩⟩
    · obtain ⟨a, b, _⟩ := (h.mem q).mp z
      exact ⟨a, b⟩
    · rcases h.all q z.1 z.2 with y | y
      · exact (h.mem q).mpr ⟨z.1, z.2, y⟩
      · rw [e] at y
        have := Nat.le_of_dvd (by omega) y
        have := z.1.1
        omega
/-! ### taking a prime out of a number -/
def stripF : Nat → Nat → Nat → Nat
  | 0, _, r => r
  | f + 1, p, r => if r % p = 0 then stripF f p (r / p) else r
def strip (r p : Nat) : Nat := stripF r p r
theorem stripF_more : ∀ (f g p r : Nat), 2 ≤ p → 1 ≤ r → r ≤ f → r ≤ g → stripF f p r = stripF g p r
  | 0, _, _, _, _, _, h, _ => by omega
  | _ + 1, 0, _, _, _, _, _, h => by omega
  | f + 1, g + 1, p, r, hp, hr, hf, hg => by
    show (if r % p = 0 then stripF f p (r / p) else r) = if r % p = 0 then stripF g p (r / p) else r
    by_cases h : r % p = 0
    · rw [if_pos h, if_pos h]
      have l : r / p < r := Nat.div_lt_self (by omega) (by omega)
      have k : 1 ≤ r / p := Nat.div_pos (Nat.le_of_dvd (by omega) (Nat.dvd_of_mod_eq_zero h)) (by omega)
      exact stripF_more f g p (r / p) hp k (by omega) (by omega)
    · rw [if_neg h, if_neg h]
theorem strip_yes {p r : Nat} (hp : 2 ≤ p) (hr : 1 ≤ r) (h : r % p = 0) : strip r p = strip (r / p) p := by
  have l : r / p < r := Nat.div_lt_self (by omega) (by omega)
  have k : 1 ≤ r / p := Nat.div_pos (Nat.le_of_dvd (by omega) (Nat.dvd_of_mod_eq_zero h)) (by omega)
  obtain ⟨f, rfl⟩ : ∃ f, r = f + 1 := ⟨r - 1, by omega⟩
  show (if (f + 1) % p = 0 then stripF f p ((f + 1) / p) else f + 1) = _
  rw [if_pos h]
  exact stripF_more _ _ _ _ hp k (by omega) (Nat.le_refl _)
theorem strip_no {p r : Nat} (hr : 1 ≤ r) (h : ¬ r % p = 0) : strip r p = r := by
  obtain ⟨f, rfl⟩ : ∃ f, r = f + 1 := ⟨r - 1, by omega⟩
  show (if (f + 1) % p = 0 then stripF f p ((f + 1) / p) else f + 1) = _
  rw [if_neg h]
theorem strip_out {p r0 : Nat} (hp : Pr p) : ∀ r, Out p r0 r → Out p r0 (strip r p) ∧ ¬ p ∣ strip r p := by
  intro r
  induction r using Nat.strongRecOn with
  | _ r ih =>
    intro o
    by_cases h : r % p = 0
    · rw [strip_yes hp.1 o.r1 h]
      exact ih (r / p) (Nat.div_lt_self (by have := o.r1; omega) (by have := hp.1; omega)) (o.step hp (Nat.dvd_of_mod_eq_zero h))
    · rw [strip_no o.r1 h]
      exact ⟨o, fun z => h (Nat.mod_eq_zero_of_dvd z)⟩
/-- laps of a bounded loop that takes p out -/
def lapF : Nat → Nat → Nat → Nat
  | 0, _, r => r
  | f + 1, p, r => lapF f p (if r % p = 0 then r / p else r)
theorem strip_laps {p : Nat} (hp : 2 ≤ p) : ∀ (f r : Nat), 1 ≤ r → r < 2 ^ f → lapF f p r = strip r p
  | 0, r, h1, h2 => by
    have : r < 1 := h2
    omega
  | f + 1, r, h1, h2 => by
    show lapF f p (if r % p = 0 then r / p else r) = _
    by_cases h : r % p = 0
    · rw [if_pos h, strip_yes hp h1 h]
      have k : 1 ≤ r / p := Nat.div_pos (Nat.le_of_dvd (by omega) (Nat.dvd_of_mod_eq_zero h)) (by omega)
      refine strip_laps hp f _ k ?_
      have a : r / p ≤ r / 2 := Nat.div_le_div_left hp (by omega)
      have b : r / 2 < 2 ^ f := Nat.div_lt_of_lt_mul (by rw [Nat.pow_succ] at h2; omega)
      omega
    · rw [if_neg h]
      have st : ∀ g, lapF g p r = r := fun g => by
        induction g with
        | zero => rfl
        | succ g ih =>
          show lapF g p (if r % p = 0 then r / p else r) = r
          rw [if_neg h]
          exact ih
      rw [st, strip_no h1 h]
/-! ### whether a number has no prime divisors but these -/
def within (base : List Nat) (n : Nat) : Bool := decide (base.foldl strip n = 1)
theorem fold_out : ∀ (base : List Nat) (n : Nat), (∀ p ∈ base, Pr p) → 1 ≤ n → 1 ≤ base.foldl strip n ∧ base.foldl strip n ∣ n ∧ (∀ q, Pr q → q ∉ base → q ∣ n → q ∣ base.foldl strip n) ∧ ∀ q ∈ base, ¬ q ∣ base.foldl strip n
  | [], n, _, h1 => ⟨h1, Nat.dvd_refl n, fun _ _ _ d => d, fun q hq => by simp at hq⟩
  | p :: base, n, hp, h1 => by
    have pp := hp p List.mem_cons_self
    obtain ⟨o, nd⟩ := strip_out (r0 := n) pp n (Out.start h1)
    obtain ⟨a, b, c, d⟩ := fold_out base (strip n p) (fun q hq => hp q (List.mem_cons_of_mem _ hq)) o.r1
    refine ⟨a, Nat.dvd_trans b o.dvd, fun q x y z => c q x (fun w => y (List.mem_cons_of_mem _ w)) (o.keep q x (fun e => y (by rw [e]; exact List.mem_cons_self)) z), fun q hq => ?_⟩
    rcases List.mem_cons.mp hq with e | e
    · rw [e]
      exact fun z => nd (Nat.dvd_trans z b)
    · exact d q e
/-- all prime divisors are among them -/
theorem within_true {base : List Nat} {n : Nat} (hp : ∀ p ∈ base, Pr p) (h1 : 1 ≤ n) (h : ∀ q, Pr q → q ∣ n → q ∈ base) : within base n = true := by
  obtain ⟨a, b, _, d⟩ := fold_out base n hp h1
  refine decide_eq_true ?_
  rcases Nat.lt_or_ge (base.foldl strip n) 2 with z | z
  · omega
  · obtain ⟨q, hq, hd⟩ := pr_least z
    exact absurd hd (d q (h q hq (Nat.dvd_trans hd b)))
/-- one is not -/
theorem within_false {base : List Nat} {n q : Nat} (hp : ∀ p ∈ base, Pr p) (h1 : 1 ≤ n) (hq : Pr q) (hd : q ∣ n) (hn : q ∉ base) : within base n = false := by
  obtain ⟨_, _, c, _⟩ := fold_out base n hp h1
  refine decide_eq_false fun z => ?_
  have := c q hq hn hd
  rw [z] at this
  have := Nat.le_of_dvd (by omega) this
  have := hq.1
  omega
end RM
namespace RM
open PySem PySem.Spec PyProof.Rows L2
def topS (i : Nat) : Stmt := PySem.Challenge.pw_rightmarks_k33_whole_classes_by_lengths.main.body.getD i (.Pass ⟨0, 0, 0, 0⟩)
abbrev s_divisor_of : Stmt := topS 1
abbrev s_common_divisor : Stmt := topS 2
abbrev s_dot_by : Stmt := topS 3
abbrev s_primes_by : Stmt := topS 4
abbrev s_is_integer : Stmt := topS 6
abbrev s_are_integers : Stmt := topS 7
abbrev s_is_ray : Stmt := topS 8
abbrev s_is_ray_of : Stmt := topS 9
abbrev s_are_ascending : Stmt := topS 10
abbrev s_is_class_size : Stmt := topS 16
abbrev s_is_prime : Stmt := topS 17
abbrev s_are_primes : Stmt := topS 18
abbrev s_length_by : Stmt := topS 19
abbrev s_is_within : Stmt := topS 20
abbrev s_primes_in : Stmt := topS 21
abbrev s_want : Stmt := topS 36
abbrev s_want_class : Stmt := topS 38
abbrev s_is_class : Stmt := topS 39
abbrev s_is_in_class : Stmt := topS 40
abbrev s_class_of : Stmt := topS 41
abbrev s_law_spring : Stmt := topS 43
abbrev s_law_dip : Stmt := topS 44
abbrev s_law_pick : Stmt := topS 45
abbrev s_law_same : Stmt := topS 46
abbrev s_law_is_whole : Stmt := topS 47
abbrev s_law_common : Stmt := topS 48
abbrev s_law_common_of : Stmt := topS 49
abbrev s_law_is_beam : Stmt := topS 50
abbrev s_law_made : Stmt := topS 51
abbrev s_law_dot : Stmt := topS 52
abbrev s_law_is_in : Stmt := topS 53
abbrev s_law_primes : Stmt := topS 54
abbrev s_law_all : Stmt := topS 55
abbrev s_law_axes : Stmt := topS 56
abbrev s_law_nine : Stmt := topS 57
abbrev s_law_eighteen : Stmt := topS 58
abbrev s_law_turned : Stmt := topS 59
abbrev s_law_part : Stmt := topS 60
abbrev s_law_heap : Stmt := topS 61
abbrev s_law_heard : Stmt := topS 62
abbrev s_law_drawn : Stmt := topS 63
abbrev s_law_is_ray_right : Stmt := topS 64
abbrev s_law_is_lot_right : Stmt := topS 65
abbrev s_law : Stmt := topS 66
abbrev n_divisor_of : List Str := ["one", "other"]
theorem sc_divisor_of : FnScope n_divisor_of ["one", "other"] (defScope s_divisor_of) := ⟨rfl, rfl, rfl, by decide +kernel, rfl, by decide +kernel, by decide +kernel⟩
abbrev n_common_divisor : List Str := ["numbers", "found", "number"]
theorem sc_common_divisor : FnScope n_common_divisor ["numbers"] (defScope s_common_divisor) := ⟨rfl, rfl, rfl, by decide +kernel, rfl, by decide +kernel, by decide +kernel⟩
abbrev n_dot_by : List Str := ["one", "other", "here", "there"]
theorem sc_dot_by : FnScope n_dot_by ["one", "other"] (defScope s_dot_by) := ⟨rfl, rfl, rfl, by decide +kernel, rfl, by decide +kernel, by decide +kernel⟩
abbrev n_primes_by : List Str := ["number", "found", "prime", "rest"]
theorem sc_primes_by : FnScope n_primes_by ["number"] (defScope s_primes_by) := ⟨rfl, rfl, rfl, by decide +kernel, rfl, by decide +kernel, by decide +kernel⟩
abbrev n_is_integer : List Str := ["thing"]
theorem sc_is_integer : FnScope n_is_integer ["thing"] (defScope s_is_integer) := ⟨rfl, rfl, rfl, by decide +kernel, rfl, by decide +kernel, by decide +kernel⟩
abbrev n_are_integers : List Str := ["thing", "one"]
theorem sc_are_integers : FnScope n_are_integers ["thing"] (defScope s_are_integers) := ⟨rfl, rfl, rfl, by decide +kernel, rfl, by decide +kernel, by decide +kernel⟩
abbrev n_is_ray : List Str := ["thing", "firsts", "number"]
theorem sc_is_ray : FnScope n_is_ray ["thing"] (defScope s_is_ray) := ⟨rfl, rfl, rfl, by decide +kernel, rfl, by decide +kernel, by decide +kernel⟩
abbrev n_is_ray_of : List Str := ["size", "thing"]
theorem sc_is_ray_of : FnScope n_is_ray_of ["size", "thing"] (defScope s_is_ray_of) := ⟨rfl, rfl, rfl, by decide +kernel, rfl, by decide +kernel, by decide +kernel⟩
abbrev n_are_ascending : List Str := ["things", "one", "other"]
theorem sc_are_ascending : FnScope n_are_ascending ["things"] (defScope s_are_ascending) := ⟨rfl, rfl, rfl, by decide +kernel, rfl, by decide +kernel, by decide +kernel⟩
abbrev n_is_class_size : List Str := ["thing"]
theorem sc_is_class_size : FnScope n_is_class_size ["thing"] (defScope s_is_class_size) := ⟨rfl, rfl, rfl, by decide +kernel, rfl, by decide +kernel, by decide +kernel⟩
abbrev n_is_prime : List Str := ["thing", "part"]
theorem sc_is_prime : FnScope n_is_prime ["thing"] (defScope s_is_prime) := ⟨rfl, rfl, rfl, by decide +kernel, rfl, by decide +kernel, by decide +kernel⟩
abbrev n_are_primes : List Str := ["thing", "one"]
theorem sc_are_primes : FnScope n_are_primes ["thing"] (defScope s_are_primes) := ⟨rfl, rfl, rfl, by decide +kernel, rfl, by decide +kernel, by decide +kernel⟩
abbrev n_length_by : List Str := ["ray"]
theorem sc_length_by : FnScope n_length_by ["ray"] (defScope s_length_by) := ⟨rfl, rfl, rfl, by decide +kernel, rfl, by decide +kernel, by decide +kernel⟩
abbrev n_is_within : List Str := ["primes", "ray", "rest", "prime"]
theorem sc_is_within : FnScope n_is_within ["primes", "ray"] (defScope s_is_within) := ⟨rfl, rfl, rfl, by decide +kernel, rfl, by decide +kernel, by decide +kernel⟩
abbrev n_primes_in : List Str := ["lot", "found", "length", "ray"]
theorem sc_primes_in : FnScope n_primes_in ["lot"] (defScope s_primes_in) := ⟨rfl, rfl, rfl, by decide +kernel, rfl, by decide +kernel, by decide +kernel⟩
abbrev n_want : List Str := ["is_right", "name", "place"]
theorem sc_want : FnScope n_want ["is_right", "name", "place"] (defScope s_want) := ⟨rfl, rfl, rfl, by decide +kernel, rfl, by decide +kernel, by decide +kernel⟩
abbrev n_want_class : List Str := ["size", "primes"]
theorem sc_want_class : FnScope n_want_class ["size", "primes"] (defScope s_want_class) := ⟨rfl, rfl, rfl, by decide +kernel, rfl, by decide +kernel, by decide +kernel⟩
abbrev n_is_class : List Str := ["thing"]
theorem sc_is_class : FnScope n_is_class ["thing"] (defScope s_is_class) := ⟨rfl, rfl, rfl, by decide +kernel, rfl, by decide +kernel, by decide +kernel⟩
abbrev n_is_in_class : List Str := ["size", "primes", "ray"]
theorem sc_is_in_class : FnScope n_is_in_class ["size", "primes", "ray"] (defScope s_is_in_class) := ⟨rfl, rfl, rfl, by decide +kernel, rfl, by decide +kernel, by decide +kernel⟩
abbrev n_class_of : List Str := ["lot"]
theorem sc_class_of : FnScope n_class_of ["lot"] (defScope s_class_of) := ⟨rfl, rfl, rfl, by decide +kernel, rfl, by decide +kernel, by decide +kernel⟩
abbrev n_law_spring : List Str := ["_law_script"]
theorem sc_law_spring : FnScope n_law_spring ["_law_script"] (defScope s_law_spring) := ⟨rfl, rfl, rfl, by decide +kernel, rfl, by decide +kernel, by decide +kernel⟩
abbrev n_law_dip : List Str := ["_law_spring_here", "_law_limit", "_law_spot", "_law_cell", "_law_mixed", "_law_figure"]
theorem sc_law_dip : FnScope n_law_dip ["_law_spring_here", "_law_limit"] (defScope s_law_dip) := ⟨rfl, rfl, rfl, by decide +kernel, rfl, by decide +kernel, by decide +kernel⟩
abbrev n_law_pick : List Str := ["_law_spring_here", "_law_some"]
theorem sc_law_pick : FnScope n_law_pick ["_law_spring_here", "_law_some"] (defScope s_law_pick) := ⟨rfl, rfl, rfl, by decide +kernel, rfl, by decide +kernel, by decide +kernel⟩
abbrev n_law_same : List Str := ["_law_told", "_law_due"]
theorem sc_law_same : FnScope n_law_same ["_law_told", "_law_due"] (defScope s_law_same) := ⟨rfl, rfl, rfl, by decide +kernel, rfl, by decide +kernel, by decide +kernel⟩
abbrev n_law_is_whole : List Str := ["_law_item"]
theorem sc_law_is_whole : FnScope n_law_is_whole ["_law_item"] (defScope s_law_is_whole) := ⟨rfl, rfl, rfl, by decide +kernel, rfl, by decide +kernel, by decide +kernel⟩
abbrev n_law_common : List Str := ["_law_first", "_law_second", "_law_lap"]
theorem sc_law_common : FnScope n_law_common ["_law_first", "_law_second"] (defScope s_law_common) := ⟨rfl, rfl, rfl, by decide +kernel, rfl, by decide +kernel, by decide +kernel⟩
abbrev n_law_common_of : List Str := ["_law_entries", "_law_found", "_law_part_here"]
theorem sc_law_common_of : FnScope n_law_common_of ["_law_entries"] (defScope s_law_common_of) := ⟨rfl, rfl, rfl, by decide +kernel, rfl, by decide +kernel, by decide +kernel⟩
abbrev n_law_is_beam : List Str := ["_law_item", "_law_wide", "_law_rest", "_law_part_here"]
theorem sc_law_is_beam : FnScope n_law_is_beam ["_law_item", "_law_wide"] (defScope s_law_is_beam) := ⟨rfl, rfl, rfl, by decide +kernel, rfl, by decide +kernel, by decide +kernel⟩
abbrev n_law_made : List Str := ["_law_entries", "_law_sign", "_law_shared", "_law_rest", "_law_part_here"]
theorem sc_law_made : FnScope n_law_made ["_law_entries"] (defScope s_law_made) := ⟨rfl, rfl, rfl, by decide +kernel, rfl, by decide +kernel, by decide +kernel⟩
abbrev n_law_dot : List Str := ["_law_first", "_law_second", "_law_a", "_law_b"]
theorem sc_law_dot : FnScope n_law_dot ["_law_first", "_law_second"] (defScope s_law_dot) := ⟨rfl, rfl, rfl, by decide +kernel, rfl, by decide +kernel, by decide +kernel⟩
abbrev n_law_is_in : List Str := ["_law_base", "_law_beam", "_law_left", "_law_part_here", "_law_lap"]
theorem sc_law_is_in : FnScope n_law_is_in ["_law_base", "_law_beam"] (defScope s_law_is_in) := ⟨rfl, rfl, rfl, by decide +kernel, rfl, by decide +kernel, by decide +kernel⟩
abbrev n_law_primes : List Str := ["_law_number", "_law_part_here", "_law_found", "_law_left", "_law_lap"]
theorem sc_law_primes : FnScope n_law_primes ["_law_number"] (defScope s_law_primes) := ⟨rfl, rfl, rfl, by decide +kernel, rfl, by decide +kernel, by decide +kernel⟩
abbrev n_law_all : List Str := ["_law_wide", "_law_most", "_law_found", "_law_lap", "_law_late", "_law_some", "_law_beam", "_law_part_here"]
theorem sc_law_all : FnScope n_law_all ["_law_wide", "_law_most"] (defScope s_law_all) := ⟨rfl, rfl, rfl, by decide +kernel, rfl, by decide +kernel, by decide +kernel⟩
abbrev n_law_axes : List Str := ["_law_wide", "_law_spot", "_law_k"]
theorem sc_law_axes : FnScope n_law_axes ["_law_wide"] (defScope s_law_axes) := ⟨rfl, rfl, rfl, by decide +kernel, rfl, by decide +kernel, by decide +kernel⟩
abbrev n_law_nine : List Str := []
theorem sc_law_nine : FnScope n_law_nine [] (defScope s_law_nine) := ⟨rfl, rfl, rfl, by decide +kernel, rfl, by decide +kernel, by decide +kernel⟩
abbrev n_law_eighteen : List Str := ["_law_some"]
theorem sc_law_eighteen : FnScope n_law_eighteen [] (defScope s_law_eighteen) := ⟨rfl, rfl, rfl, by decide +kernel, rfl, by decide +kernel, by decide +kernel⟩
abbrev n_law_turned : List Str := ["_law_spring_here", "_law_heap_here", "_law_cut", "_law_turn", "_law_signs", "_law_found", "_law_beam", "_law_wide", "_law_beams", "_law_k"]
theorem sc_law_turned : FnScope n_law_turned ["_law_spring_here", "_law_heap_here"] (defScope s_law_turned) := ⟨rfl, rfl, rfl, by decide +kernel, rfl, by decide +kernel, by decide +kernel⟩
abbrev n_law_part : List Str := ["_law_spring_here", "_law_beams", "_law_many", "_law_cut", "_law_some", "_law_beam"]
theorem sc_law_part : FnScope n_law_part ["_law_spring_here", "_law_beams", "_law_many"] (defScope s_law_part) := ⟨rfl, rfl, rfl, by decide +kernel, rfl, by decide +kernel, by decide +kernel⟩
abbrev n_law_heap : List Str := ["_law_spring_here", "_law_many", "_law_kind", "_law_wide", "_law_some"]
theorem sc_law_heap : FnScope n_law_heap ["_law_spring_here", "_law_many"] (defScope s_law_heap) := ⟨rfl, rfl, rfl, by decide +kernel, rfl, by decide +kernel, by decide +kernel⟩
abbrev n_law_heard : List Str := ["_law_ask", "_law_kinds", "_law_own", "e"]
theorem sc_law_heard : FnScope n_law_heard ["_law_ask"] (defScope s_law_heard) := ⟨rfl, rfl, rfl, by decide +kernel, rfl, by decide +kernel, by decide +kernel⟩
abbrev n_law_drawn : List Str := ["_law_spring_here", "_law_wide", "_law_most", "_law_entries", "_law_k", "_law_part_here"]
theorem sc_law_drawn : FnScope n_law_drawn ["_law_spring_here", "_law_wide"] (defScope s_law_drawn) := ⟨rfl, rfl, rfl, by decide +kernel, rfl, by decide +kernel, by decide +kernel⟩
abbrev n_law_is_ray_right : List Str := ["_law_spring_here", "_law_wide", "_law_beam", "_law_base", "_law_far", "_law_tries", "_law_more", "_law_due"]
theorem sc_law_is_ray_right : FnScope n_law_is_ray_right ["_law_spring_here", "_law_wide", "_law_beam"] (defScope s_law_is_ray_right) := ⟨rfl, rfl, rfl, by decide +kernel, rfl, by decide +kernel, by decide +kernel⟩
abbrev n_law_is_lot_right : List Str := ["_law_heap_here", "_law_beam", "_law_base", "_law_told", "_law_part_here", "_law_heard_here", "_law_found", "_law_was", "_law_fewer", "_law_one"]
theorem sc_law_is_lot_right : FnScope n_law_is_lot_right ["_law_heap_here"] (defScope s_law_is_lot_right) := ⟨rfl, rfl, rfl, by decide +kernel, rfl, by decide +kernel, by decide +kernel⟩
abbrev n_law : List Str := ["_law_script", "_law_spring_here", "_law_wide", "_law_some", "_law_lap", "_law_heap_here"]
theorem sc_law : FnScope n_law ["_law_script"] (defScope s_law) := ⟨rfl, rfl, rfl, by decide +kernel, rfl, by decide +kernel, by decide +kernel⟩
/-! ### heaps -/
theorem same_new {H : Hp} {p : Addr} {o : HO} (h : H p = none) : Same H (upd H p o) := fun b x e => by
  rw [upd_ne (ne_of_none e h)]
  exact e
theorem same_add {H H1 : Hp} {p : Addr} {o : HO} (s : Same H H1) (h : H1 p = none) : Same H (upd H1 p o) := s.trans (same_new h)
/-- an object that H does not know is written -/
theorem same_put {H H1 : Hp} {p : Addr} {o : HO} (s : Same H H1) (h : H p = none) : Same H (upd H1 p o) := fun b x e => by
  rw [upd_ne (ne_of_none e h)]
  exact s b x e
theorem same_t {K : PySem.W.Frag} {H H' : Hp} {a : Addr} {xs : List V} (e : Same H H') (h : SqT K H a xs) : SqT K H' a xs := by
  rcases h with (h | ⟨o, h⟩) | h
  · exact .inl (.inl (e _ _ h))
  · exact .inl (.inr ⟨o, e _ _ h⟩)
  · exact .inr h
theorem tup_at {K : PySem.W.Frag} {H : Hp} {p : Addr} {xs : List V} : SqT K (upd H p (.tup xs)) p xs := .of upd_same
theorem lst_at {K : PySem.W.Frag} {H : Hp} {p : Addr} {xs : List V} : SqL K (upd H p (.lst xs)) p xs := .of upd_same
/-! ### the module's facts -/
structure Txt (mg : Str → Option Value) : Prop where
  abs : mg "abs" = none
  all : mg "all" = none
  bool : mg "bool" = none
  int : mg "int" = none
  isinstance : mg "isinstance" = none
  len : mg "len" = none
  list : mg "list" = none
  range : mg "range" = none
  repr : mg "repr" = none
  set : mg "set" = none
  sorted : mg "sorted" = none
  sum : mg "sum" = none
  tuple : mg "tuple" = none
  zip : mg "zip" = none
  verr : mg "ValueError" = none
  leastC : ∃ t, mg "LEAST_CLASS" = some (.int 3 t)
  mostC : ∃ t, mg "MOST_CLASS" = some (.int 5 t)
  topP : ∃ t, mg "TOP_PRIME" = some (.int 1000000 t)
  topR : ∃ t, mg "TOP_ROOT" = some (.int 1000 t)
/-- a def of the text stands behind the top -/
def Def (K : PySem.W.Frag) (mg : Str → Option Value) (x : Str) (st : Stmt) : Prop :=
  ∃ f fd, mg x = some (.ref f) ∧ FunD K x x (defArgs st) (defBody st) (defScope st) [] [] f fd
/-- a def that may be called by its name -/
def Cal (CX : CXT) (P : Program) (w : World) (K : PySem.W.Frag) (mg : Str → Option Value) (base : Heap) (x : Str) (ps : List Str) (k : Nat) (sp : Sp) : Prop :=
  ∃ f fd, mg x = some (.ref f) ∧ PySem.W.keepIn K (.ref f) = true ∧ Binds K fd ps [] ∧ FnOk P w K mg base CX k f fd ps sp
section
variable {CX : CXT} {P : Program} {w : World} {K : PySem.W.Frag} {mg : Str → Option Value} {base : Heap}
theorem Cal.make {x : Str} {st : Stmt} {N ps : List Str} {k : Nat} {sp : Sp} (D : Def K mg x st) (S : FnScope N ps (defScope st))
    (hb : ∀ (kV doc pm : Value) (an : Option Addr) (cdv ct : Value) (us : List Value), us.length = ps.length → bindArgs (PySem.W.fnOf x x (defArgs st) (defBody st) (defScope st) .none kV doc pm an cdv ct) ⟨us, []⟩ = pure (ps.zip us))
    (len : ∀ vs H Q E, sp vs H Q E → vs.length = ps.length)
    (body : ∀ (f : Addr) (cdv : Value) (A : Around) (outer : List Env) (s : Shared) (H : Hp) (vs : List V) (Q : VK) (E : XK), Room k (A.deeper (envOfC x (defScope st) s.heap.objs.size f cdv)) → sp vs H Q E →
      ∃ t, PSs (cxOf CX P w K mg base N x (defScope st) f cdv A outer s H E) (defBody st) t ∧ t { nx := fun _ H' => Q .non H', rt := Q } (start N vs) H) : Cal CX P w K mg base x ps (k + 1) sp := by
  obtain ⟨f, fd, hm, F⟩ := D
  exact ⟨f, fd, hm, F.kp, F.bindsN hb, F.ok S len (body f)⟩
theorem Cal.mono {x : Str} {ps : List Str} {j k : Nat} {sp : Sp} (c : Cal CX P w K mg base x ps j sp) (h : j ≤ k) : Cal CX P w K mg base x ps k sp := by
  obtain ⟨f, fd, a, b, c, G⟩ := c
  exact ⟨f, fd, a, b, c, G.mono h⟩
theorem Cal.imp {x : Str} {ps : List Str} {k : Nat} {sp sp' : Sp} (c : Cal CX P w K mg base x ps k sp) (h : ∀ vs H Q E, sp' vs H Q E → sp vs H Q E) : Cal CX P w K mg base x ps k sp' := by
  obtain ⟨f, fd, a, b, c, G⟩ := c
  exact ⟨f, fd, a, b, c, G.imp h⟩
end
/-! ### ints in sequences -/
theorem get_int {ns : List Int} {i : Nat} {y : V} (h : (ns.map V.int)[i]? = some y) : ∃ z, ns[i]? = some z ∧ y = V.int z := by
  rw [List.getElem?_map] at h
  cases e : ns[i]? with
  | none =>
    rw [e] at h
    cases h
  | some z =>
    rw [e] at h
    exact ⟨z, rfl, (Option.some.inj h).symm⟩
theorem take_next {α : Type} : ∀ {l : List α} {i : Nat} {x : α}, l[i]? = some x → l.take (i + 1) = l.take i ++ [x]
  | [], i, x, h => by simp at h
  | a :: l, 0, x, h => by
    have e : a = x := Option.some.inj h
    rw [e]
    rfl
  | a :: l, i + 1, x, h => by
    have ih := take_next (l := l) (i := i) (x := x) h
    show a :: l.take (i + 1) = a :: l.take i ++ [x]
    rw [ih]
    rfl
/-! ### tests whose answer is known -/
theorem ifT {c : Bool} {A B : Prop} (hc : c = true) (h : A) : if c = true then A else B := by
  rw [hc]
  exact iteT h
theorem ifF {c : Bool} {A B : Prop} (hc : c = false) (h : B) : if c = true then A else B := by
  rw [hc]
  exact iteF h
theorem neI {i j : Int} (h : ¬ i = j) : (!decide (V.int i = V.int j)) = true := by
  have z : ¬ V.int i = V.int j := fun z => h (V.int.inj z)
  rw [decide_eq_false z] <;> rfl
theorem neI0 {i j : Int} (h : i = j) : (!decide (V.int i = V.int j)) = false := by
  rw [decide_eq_true (congrArg V.int h)] <;> rfl
theorem eqI {i j : Int} (h : i = j) : decide (V.int i = V.int j) = true := decide_eq_true (congrArg V.int h)
theorem eqI0 {i j : Int} (h : ¬ i = j) : decide (V.int i = V.int j) = false := decide_eq_false fun z => h (V.int.inj z)
theorem blT {p : Prop} [Decidable p] (h : p) : V.bl (decide p) = V.bl true := congrArg V.bl (decide_eq_true h)
theorem blF {p : Prop} [Decidable p] (h : ¬ p) : V.bl (decide p) = V.bl false := congrArg V.bl (decide_eq_false h)
theorem rtT {Q : VK} {H : Hp} {p : Prop} [Decidable p] (h : p) (q : Q (.bl true) H) : Q (.bl (decide p)) H := by
  rw [blT h]
  exact q
end RM
namespace RM
open PySem PySem.Spec PyProof.Rows L2
/-! ### comprehensions -/
/-- behind i turns: what stood stands, the new list at D holds acc i -/
def LcP (H1 : Hp) (D : Addr) (acc : Nat → List V) (i : Nat) (H : Hp) : Prop := Same H1 H ∧ H D = some (.lst (acc i))
theorem LcP.start {H1 : Hp} {D : Addr} {acc : Nat → List V} (hD : H1 D = none) (h0 : acc 0 = []) : LcP H1 D acc 0 (upd H1 D (.lst [])) :=
  ⟨same_new hD, by rw [h0]; exact upd_same⟩
theorem LcP.yes {H1 H H4 : Hp} {D : Addr} {acc : Nat → List V} {i : Nat} {y : V} (p : LcP H1 D acc i H) (hD : H1 D = none) (s : Same H H4) (hn : acc (i + 1) = acc i ++ [y]) (hl : (acc i).length < 1000000) :
    ∃ a, H4 D = some (.lst a) ∧ a.length < sizeLine ∧ LcP H1 D acc (i + 1) (upd H4 D (.lst (a ++ [y]))) :=
  ⟨acc i, s _ _ p.2, Nat.lt_of_lt_of_le hl (by decide), same_put (p.1.trans s) hD, by rw [hn]; exact upd_same⟩
theorem LcP.no {H1 H H3 : Hp} {D : Addr} {acc : Nat → List V} {i : Nat} (p : LcP H1 D acc i H) (s : Same H H3) (hn : acc (i + 1) = acc i) : LcP H1 D acc (i + 1) H3 :=
  ⟨p.1.trans s, by rw [hn]; exact s _ _ p.2⟩
theorem LcP.at_ {H1 H : Hp} {D : Addr} {acc : Nat → List V} {i : Nat} {l : List V} (p : LcP H1 D acc i H) (h : acc i = l) : H D = some (.lst l) := by
  rw [← h]
  exact p.2
/-- the same, what the list holds told by Good -/
def LcE (H1 : Hp) (D : Addr) (Good : Nat → List V → Hp → Prop) (i : Nat) (H : Hp) : Prop := Same H1 H ∧ ∃ ys, H D = some (.lst ys) ∧ Good i ys H
theorem LcE.start {H1 : Hp} {D : Addr} {Good : Nat → List V → Hp → Prop} (hD : H1 D = none) (h0 : ∀ H, Same H1 H → Good 0 [] H) : LcE H1 D Good 0 (upd H1 D (.lst [])) :=
  ⟨same_new hD, [], upd_same, h0 _ (same_new hD)⟩
theorem LcE.yes {H1 H H4 : Hp} {D : Addr} {Good : Nat → List V → Hp → Prop} {i : Nat} {y : V} {ys : List V} (p : Same H1 H) (e : H D = some (.lst ys)) (hD : H1 D = none) (s : Same H H4) (hl : ys.length < 1000000)
    (hg : Good (i + 1) (ys ++ [y]) (upd H4 D (.lst (ys ++ [y])))) : ∃ a, H4 D = some (.lst a) ∧ a.length < sizeLine ∧ LcE H1 D Good (i + 1) (upd H4 D (.lst (a ++ [y]))) :=
  ⟨ys, s _ _ e, Nat.lt_of_lt_of_le hl (by decide), same_put (p.trans s) hD, _, upd_same, hg⟩
/-- zip of two tuples -/
theorem walk_zipT {K : PySem.W.Frag} {a b : Addr} {xs ys : List V} {n : Nat} (hn : n = min xs.length ys.length) : Walk (RZ.ItzT K a b) n (fun H => SqT K H a xs ∧ SqT K H b ys) (YPair (fun i => xs[i]?) (fun i => ys[i]?)) := by
  subst hn
  refine ⟨fun i _ hi q => ?_, fun _ q => ⟨xs, ys, q.1, q.2, by omega⟩, fun i H v H' _ q y => ?_⟩
  · have h1 : i < xs.length := by omega
    have h2 : i < ys.length := by omega
    exact ⟨xs, ys, xs[i], ys[i], q.1, q.2, by simp [h1], by simp [h2]⟩
  · obtain ⟨T, x, z, h1, h2, h3, h4, h5⟩ := y
    exact ⟨T, x, z, h1, h2, h3, h4 xs q.1, h5 ys q.2⟩
theorem map_take_len {α : Type} (f : α → V) (l : List α) (i : Nat) : ((l.take i).map f).length ≤ l.length := by
  rw [List.length_map, List.length_take]
  exact Nat.min_le_right _ _
theorem map_take_next {α : Type} {f : α → V} {l : List α} {i : Nat} {x : α} (h : l[i]? = some x) : (l.take (i + 1)).map f = (l.take i).map f ++ [f x] := by
  rw [take_next h, List.map_append]
  rfl
theorem all_tt {α : Type} : ∀ l : List α, (l.map fun _ => true).all id = true
  | [] => rfl
  | _ :: l => by
    show (true && (l.map fun _ => true).all id) = true
    rw [all_tt l] <;> rfl
/-! ### slices -/
theorem cut_tail (xs : List V) : cutV xs (some 1) none = xs.drop 1 := by
  unfold cutV
  rw [HT.sIx_none, show HT.sIx xs.length 0 (some 1) = min 1 xs.length from HT.sIx_nat xs.length 0 1]
  cases xs with
  | nil => rfl
  | cons x r =>
    have e : min 1 (x :: r).length = 1 := by
      rw [List.length_cons]
      omega
    rw [e]
    show List.take ((x :: r).length - 1) r = r
    rw [List.length_cons, Nat.add_sub_cancel]
    exact List.take_length
/-- a slice of a tuple: the same tuple, or a new one -/
def rSlB (K : PySem.W.Frag) : V → Option Int → Option Int → Hp → VK → Prop := fun x lo hi H Q => ∃ a xs, x = .ref a ∧ SqT K H a xs ∧ ∀ p H', Same H H' → SqT K H' p (cutV xs lo hi) → Q (.ref p) H'
theorem sl_tupB {X : Cx} : SlR X (rSlB X.K) := by
  intro pins s σ H x v vl vu lo hi sl Q I rx hs pl pu h
  obtain ⟨a, xs, e, hA, k⟩ := h
  refine sl_tupA pins s σ H x v vl vu lo hi sl Q I rx hs pl pu ⟨a, xs, e, hA, fun hw => k a H (Same.refl H) ?_, fun _ p hp => k p _ (same_new hp) tup_at⟩
  have ec : cutV xs lo hi = xs := by
    unfold cutV
    rw [hw.1, hw.2, List.drop_zero, Nat.sub_zero, List.take_length]
  rw [ec]
  exact hA
theorem asc_length : ∀ {l : List Nat} {p : Nat}, l.Pairwise (· < ·) → (∀ q ∈ l, q < p) → l.length ≤ p
  | [], _, _, _ => Nat.zero_le _
  | a :: l, p, h, hp => by
    obtain ⟨h1, h2⟩ := List.pairwise_cons.mp h
    have key : ∀ (l : List Nat) (a : Nat), l.Pairwise (· < ·) → (∀ q ∈ l, a < q) → (∀ q ∈ l, q < p) → a < p → l.length + a < p := by
      intro l
      induction l with
      | nil =>
        intro a _ _ _ h
        show 0 + a < p
        omega
      | cons b l ih =>
        intro a hl ha hb hap
        obtain ⟨g1, g2⟩ := List.pairwise_cons.mp hl
        have := ih b g2 g1 (fun q hq => hb q (List.mem_cons_of_mem _ hq)) (hb b List.mem_cons_self)
        have := ha b List.mem_cons_self
        show l.length + 1 + a < p
        omega
    have := key l a h2 h1 (fun q hq => hp q (List.mem_cons_of_mem _ hq)) (hp a List.mem_cons_self)
    show l.length + 1 ≤ p
    omega
/-! ### kinds -/
theorem kit_int {K : PySem.W.Frag} : PySem.W.kitOne K (.type "int") (.type "int") = some true := kit_ty (by decide +kernel)
theorem kit_int_bool {K : PySem.W.Frag} : PySem.W.kitOne K (.type "int") (.type "bool") = some false := kit_ty (by decide +kernel)
theorem kit_tuple {K : PySem.W.Frag} : PySem.W.kitOne K (.type "tuple") (.type "tuple") = some true := kit_ty (by decide +kernel)
theorem ty_tuple {K : PySem.W.Frag} {H : Hp} {a : Addr} {xs : List V} (h : SqT K H a xs) : TyX K H (.ref a) (.type "tuple") := by
  rcases h with (h | ⟨o, h⟩) | ⟨o, its, n, hk, hc, _⟩
  · exact .base (.tup h)
  · exact .fTuple h
  · exact .kTuple hk hc
end RM
namespace RM
open PySem PySem.Spec PyProof.Rows L2
/-! ### set(a list of ints) -/
/-- an empty set, as it is made -/
abbrev noSet (w : World) : Obj := { cls := .type "set", dict := none, data := .set #[] 0 (.fresh 0 0 (!w.params.followText "set-order")) }
theorem lst_set : isSubtype (.type "list") (.type "set") = pure false := by rw [isSubtype_type]; kernel_rfl
theorem lst_frozenset : isSubtype (.type "list") (.type "frozenset") = pure false := by rw [isSubtype_type]; kernel_rfl
section
variable {P : Program} {w : World} {A : Around} {E : Value → Shared → Prop} {s : Shared}
/-- what __init__ leaves of the set at S -/
def Filled (w : World) (S : Addr) (ns : List Int) (s s2 : Shared) : Prop :=
  ∃ h' tk c, s2 = { s with heap := h', toks := tk } ∧ SetR w h' S (fun j => decide (j ∈ ns)) c ∧ c ≤ ns.length ∧ ∀ b o, b ≠ S → s.heap.get? b = some o → h'.get? b = some o
theorem fill_list {S l : Addr} {items : Array Value} {ns : List Int} {R : Result → Shared → Prop} (hh : A.handled = none) (hS : s.heap.get? S = some (noSet w)) (hl : s.heap.IsList l items) (hit : IntsAre items.toList ns) (hb : ns.length + 1 < scanBound)
    (hR : ∀ s2, Filled w S ns s s2 → R (.ok (.ret .none)) s2) :
    wpAny (model P w) A.in1 (Builtin.«set.__init__» ⟨[.ref S, .ref l], []⟩)
      (fun fin s' => match fin with | .done f => R (.ok f) s' | .again c' => c'.quiet = true ∧ codeAny (model P w) A c' R s') (fun e s' => R (.error e) s') s := by
  have size : items.size = ns.length := by
    have q := IntsAre.length hit
    rw [Array.length_toList] at q
    exact q
  obtain ⟨ol, hol, hcl, nl, hdl⟩ := id hl
  obtain ⟨ocls, odict, odata, oslots⟩ := ol
  simp only at hcl hdl
  subst hcl hdl
  have notSet := lst_set
  have notFrozen := lst_frozenset
  have notDict : (Value.type "list" == Value.type "dict") = false := by decide
  unfold Builtin.«set.__init__» noKeywords Builtin.Frozenset.updateFrom
  generalize eIter : pyIter = iter
  wp_walk
  subst eIter
  refine wpAny_pyIter_list hl (wpAny_bind (wpAny_runValue ?_))
  have ltl : l < s.heap.objs.size := Heap.lt_size hol
  have ltS : S < s.heap.objs.size := Heap.lt_size hS
  have SneL : S ≠ l := fun e => by
    rw [e, hol] at hS
    have z := congrArg Obj.cls (Option.some.inj hS)
    simp at z
  have calm : A.in1.in1.handled = none := by simp [hh]
  have out : S ∉ [s.heap.objs.size, l] := by
    simp only [List.mem_cons, List.not_mem_nil, or_false, not_or]
    exact ⟨Nat.ne_of_lt ltS, SneL⟩
  have each : ∀ (i : Nat) (v : Value), items[i]? = some v → ∃ k t, ns[i]? = some k ∧ v = .int k t := fun i v hv => by
    have hi : i < ns.length := by
      rw [← size]
      exact (Array.getElem?_eq_some_iff.mp hv).1
    obtain ⟨t, e⟩ := IntsAre.int_at hit i v (by rw [Array.getElem?_toList]; exact hv)
    rw [List.getD_eq_getElem?_getD, List.getElem?_eq_getElem hi] at e
    exact ⟨ns[i], t, List.getElem?_eq_getElem hi, e⟩
  refine set_update_ints ((Walks.list calm s.heap.objs.size l (Nat.ne_of_lt ltl) items).toS) S out ns size hb each items.size 0 _ (Nat.sub_zero _) (Nat.zero_le _) ?st ?start ?fin
  case st => exact ⟨⟨_, Heap.get?_push_size _ rfl, rfl, rfl⟩, hl.push _⟩
  case start => exact ⟨0, Nat.le_refl 0, setR_new_at (Heap.get?_push_of_some _ hS)⟩
  case fin =>
    intro s2 c hm hc hS2
    obtain ⟨h2, g2, d2, tk2, os2⟩ := s2
    obtain rfl : g2 = s.gens := hm.gens
    obtain rfl : d2 = s.drawn := hm.drawn
    obtain rfl : os2 = s.os := hm.os
    show wpAny _ _ _ _ _ _
    refine wpAny_pure ?_
    show wpAny _ _ (ret Value.none) _ _ _
    refine wpAny_pure (hR _ ⟨h2, tk2, c, rfl, hS2, by rw [← size]; exact hc, fun b o hne e => ?_⟩)
    refine hm.heap b o ?_ (Heap.get?_push_of_some _ e)
    simp only [List.mem_cons, List.not_mem_nil, or_false, not_or]
    exact ⟨hne, Nat.ne_of_lt (Heap.lt_size e)⟩
theorem call_set_ints {l : Addr} {items : Array Value} {ns : List Int} {Q : Value → Shared → Prop} (hh : A.handled = none) (hl : s.heap.IsList l items) (hit : IntsAre items.toList ns) (hb : ns.length + 1 < scanBound)
    (hq : ∀ (h' : Heap) (tk c : Nat), SetR w h' s.heap.objs.size (fun j => decide (j ∈ ns)) c → c ≤ ns.length → (∀ b o, s.heap.get? b = some o → h'.get? b = some o) → Q (.ref s.heap.objs.size) { s with heap := h', toks := tk }) :
    wpAny (model P w) A (call (.type "set") [.ref l]) Q E s := by
  obtain ⟨cm, lm, hmro⟩ := F.called_set.mro
  have a1 := F.called_set.made
  have a2 := F.called_set.sub
  have a3 := F.called_set.notType
  have a4 := F.called_set.canCreate
  have a5 := F.typeCall_set_1 (.ref l)
  refine wpAny_call (codeAny_of_tree ?_)
  show wpAny _ _ (callAny (.type "set") _) _ _ _
  refine wpAny_pure ⟨Code.quiet_builtin _ (by decide +kernel), codeAny_builtin F.entry_type_call ?_⟩
  rw [Around.under_plain (weight_type_call_type "set" [.ref l] []) rfl]
  repeat (any_goals (first | assumption | wp_step))
  refine codeAny_mono (code_set_led1 (.ref l) (E := E) (Q₁ := fun x t => x = .ref s.heap.objs.size ∧ t = { s with heap := s.heap.push (noSet w) }) ⟨rfl, rfl⟩) fun r t hr => ?_
  cases r with
  | error e => exact hr
  | ok fl =>
    cases fl with
    | next => exact hr.elim
    | brk => exact hr.elim
    | cont => exact hr.elim
    | ret x =>
      obtain ⟨rfl, rfl⟩ := hr
      have new : (s.heap.push (noSet w)).get? s.heap.objs.size = some (noSet w) := Heap.get?_push_size _ rfl
      have kind : Shared.TypeIs { s with heap := s.heap.push (noSet w) } (.ref s.heap.objs.size) "set" := ⟨_, new, rfl⟩
      have b1 := F.called_set.init.lookup
      have b2 := F.called_set.init.bind (.ref s.heap.objs.size)
      repeat (any_goals (first | assumption | wp_step))
      refine codeAny_mono (codeAny_call_builtin (R := wants (fun r t2 => r = .none ∧ Filled w s.heap.objs.size ns { s with heap := s.heap.push (noSet w) } t2) E) F.called_set.init.plain F.entry_set_init
        (check_set_init_1 kind ?fill)) fun r2 t2 hr2 => ?next
      case fill =>
        refine fill_list (s := { s with heap := s.heap.push (noSet w) }) ?calm new (hl.push _) hit hb fun t2 f => ?_
        case calm => simp [hh]
        exact ⟨rfl, f⟩
      case next =>
        cases r2 with
        | error e => exact hr2
        | ok fl2 =>
          cases fl2 with
          | next => exact hr2.elim
          | brk => exact hr2.elim
          | cont => exact hr2.elim
          | ret r =>
            obtain ⟨rfl, h', tk, c, rfl, f1, f2, f3⟩ := hr2
            repeat (any_goals (first | assumption | wp_step))
            exact hq h' tk c f1 f2 fun b o e => f3 b o (Nat.ne_of_lt (Heap.lt_size e)) (Heap.get?_push_of_some _ e)
end
section
variable {X : Cx}
/-- set([..]) of ints -/
def rSetInts (K : PySem.W.Frag) (w : World) : List V → Hp → VK → Prop := fun vs H Q => ∃ (a : Addr) (ns : List Int), vs = [.ref a] ∧ SqL K H a (ns.map V.int) ∧ ns.length < 1000 ∧
  ∀ (p : Addr) (c : Nat), H p = none → c ≤ ns.length → Q (.ref p) (upd H p (SetO w p (fun j => decide (j ∈ ns)) c))
theorem cr_setInts (hc : X.calm = true) : CallR X (.type "set") (rSetInts X.K X.w) := by
  intro pins s σ H vs us Q I r h
  obtain ⟨a, ns, rfl, hS, hn, q⟩ := h
  rw [Vals.ref1 r]
  obtain ⟨its, rv, hl, _⟩ := I.list hS
  refine call_set_ints (ns := ns) (I.ok.hd hc) hl.isList (by simpa using ints_of_vals rv) (by unfold scanBound; omega) fun h' tk c R hcn k => ?_
  refine ⟨.ref s.heap.objs.size, _, I.laid (t' := tk) k (Nat.le_refl _) (setO_new R), rfl, q _ c (I.hok.fresh (Nat.le_refl _)) hcn⟩
end
end RM
namespace RM
open PySem PySem.Spec PyProof.Rows L2
/-! ### a list compared with the empty list -/
/-- an int, or a tuple of ints -/
def ElemI (K : PySem.W.Frag) (H : Hp) (v : V) : Prop := (∃ i, v = .int i) ∨ ∃ a ns, v = .ref a ∧ SqT K H a (List.map V.int ns)
theorem dp_ints {K : PySem.W.Frag} {H : Hp} : ∀ ns : List Int, DpAll K H (ns.map V.int) (ns.map PyData.int) ∧ PyData.canLayAll0 (ns.map PyData.int) = true ∧ PyData.depthAll (ns.map PyData.int) = 0
  | [] => ⟨.nil, by simp [PyData.canLayAll0], by simp [PyData.depthAll]⟩
  | n :: ns => by
    obtain ⟨a, b, c⟩ := dp_ints (K := K) (H := H) ns
    exact ⟨.cons (.int n) a, by simp [PyData.canLayAll0, PyData.canLay0, b], by simp [PyData.depthAll, PyData.depth, c]⟩
theorem dp_elems {K : PySem.W.Frag} {H : Hp} : ∀ xs : List V, (∀ v ∈ xs, ElemI K H v) → ∃ ds, DpAll K H xs ds ∧ PyData.canLayAll0 ds = true ∧ PyData.depthAll ds ≤ 1 ∧ ds.isEmpty = xs.isEmpty
  | [], _ => ⟨[], .nil, by simp [PyData.canLayAll0], by simp [PyData.depthAll], rfl⟩
  | v :: xs, h => by
    obtain ⟨ds, a, b, c, _⟩ := dp_elems xs fun v hv => h v (List.mem_cons_of_mem _ hv)
    rcases h v List.mem_cons_self with ⟨i, rfl⟩ | ⟨t, ns, rfl, ht⟩
    · exact ⟨.int i :: ds, .cons (.int i) a, by simp [PyData.canLayAll0, PyData.canLay0, b], by simp [PyData.depthAll, PyData.depth, c], rfl⟩
    · obtain ⟨e1, e2, e3⟩ := dp_ints (K := K) (H := H) ns
      refine ⟨.tuple (ns.map PyData.int) :: ds, .cons (.tup ht e1) a, by simp [PyData.canLayAll0, PyData.canLay0, b, e2], ?_, rfl⟩
      simp only [PyData.depthAll, PyData.depth, e3]
      omega
theorem eqv_nil : ∀ ds : List PyData, PyData.eqv (.list ds) (.list []) = ds.isEmpty
  | [] => by simp [PyData.eqv, PyData.eqvAll]
  | _ :: _ => by simp [PyData.eqv, PyData.eqvAll]
theorem shaped_list {ds : List PyData} (h : PyData.canLayAll0 ds = true) (hd : PyData.depthAll ds ≤ 1) : SeqAt.shaped (.list ds) = true := by
  have d : PyData.depth (.list ds) ≤ 64 := by
    have e : PyData.depth (.list ds) = PyData.depthAll ds + 1 := by simp [PyData.depth]
    omega
  have c : PyData.canLay0 (.list ds) = true := by simp [PyData.canLay0, h]
  unfold SeqAt.shaped
  rw [c, decide_eq_true d] <;> rfl
section
variable {X : Cx}
def rNeE (K : PySem.W.Frag) : R2 := fun x y H Q => ∃ a b xs, x = .ref a ∧ y = .ref b ∧ SqL K H a xs ∧ SqL K H b [] ∧ (∀ v ∈ xs, ElemI K H v) ∧ Q (.bl (!xs.isEmpty)) H
def rEqE (K : PySem.W.Frag) : R2 := fun x y H Q => ∃ a b xs, x = .ref a ∧ y = .ref b ∧ SqL K H a xs ∧ SqL K H b [] ∧ (∀ v ∈ xs, ElemI K H v) ∧ Q (.bl xs.isEmpty) H
theorem op_neE (hu : X.A.units + 64 < cLine) : OpR X (compareOp .NotEq) (rNeE X.K) := by
  intro pins s σ H x y v u Q I rx ry h
  obtain ⟨a, b, xs, ex, ey, ha, hb, he, q⟩ := h
  obtain ⟨ds, d1, d2, d3, d4⟩ := dp_elems xs he
  refine op_neD hu pins s σ H x y v u Q I rx ry ⟨.list ds, .list [], by rw [ex]; exact .lst ha d1, by rw [ey]; exact .lst hb .nil, shaped_list d2 d3, shaped_list (by simp [PyData.canLayAll0]) (by simp [PyData.depthAll]), ?_⟩
  rw [eqv_nil, d4]
  exact q
theorem op_eqE (hu : X.A.units + 64 < cLine) : OpR X (compareOp .Eq) (rEqE X.K) := by
  intro pins s σ H x y v u Q I rx ry h
  obtain ⟨a, b, xs, ex, ey, ha, hb, he, q⟩ := h
  obtain ⟨ds, d1, d2, d3, d4⟩ := dp_elems xs he
  refine op_eqD hu pins s σ H x y v u Q I rx ry ⟨.list ds, .list [], by rw [ex]; exact .lst ha d1, by rw [ey]; exact .lst hb .nil, shaped_list d2 d3, shaped_list (by simp [PyData.canLayAll0]) (by simp [PyData.depthAll]), ?_⟩
  rw [eqv_nil, d4]
  exact q
theorem elem_ints {K : PySem.W.Frag} {H : Hp} {ns : List Int} : ∀ v ∈ ns.map V.int, ElemI K H v := fun v hv => by
  obtain ⟨i, _, e⟩ := List.mem_map.mp hv
  exact .inl ⟨i, e.symm⟩
end
end RM
namespace RM
open PySem PySem.Spec PyProof.Rows L2
/-! ### sorted(a set of tuples of ints, below 0 too) -/
def Sm (ns : List Int) : Prop := ∀ n ∈ ns, -1000 ≤ n ∧ n < 1000
theorem Sm.tail {n : Int} {ns : List Int} (h : Sm (n :: ns)) : Sm ns := fun m hm => h m (List.mem_cons_of_mem _ hm)
def lifted (ns : List Int) : List Int := ns.map fun n => n + 1000
def rank (ns : List Int) : Int := TS.code 2000 (lifted ns)
theorem Sm.bd {ns : List Int} (h : Sm ns) : TS.Bd 2000 (lifted ns) := by
  intro m hm
  obtain ⟨n, hn, rfl⟩ := List.mem_map.mp hm
  have := h n hn
  omega
theorem rank_lt {p q : Int} {ns ms : List Int} (hl : ns.length = ms.length) (h1 : Sm ns) (h2 : Sm ms) (h : p < q) : rank (p :: ns) < rank (q :: ms) :=
  TS.code_lt (r := lifted ns) (q := lifted ms) (by rw [lifted, lifted, List.length_map, List.length_map, hl]) h1.bd h2.bd (by show p + 1000 < q + 1000; omega)
theorem rank_same {p : Int} {ns ms : List Int} (hl : ns.length = ms.length) : rank (p :: ns) < rank (p :: ms) ↔ rank ns < rank ms :=
  TS.code_same (r := lifted ns) (q := lifted ms) (by rw [lifted, lifted, List.length_map, List.length_map, hl])
theorem rank_ne {p q : Int} {ns ms : List Int} (hl : ns.length = ms.length) (h1 : Sm ns) (h2 : Sm ms) (h : p ≠ q) : rank (p :: ns) < rank (q :: ms) ↔ p < q := by
  constructor
  · intro z
    rcases Int.lt_or_gt_of_ne h with y | y
    · exact y
    · have := rank_lt hl.symm h2 h1 y
      omega
  · exact rank_lt hl h1 h2
/-- a tuple of n small ints, n from 1 on, stands at v -/
def SmT (h : Heap) (d : Nat) (v : Value) : Prop := ∃ ns, TS.TupInts h v ns ∧ ns.length = d ∧ Sm ns
section
variable {prog : Program} {w : World} {A : Around} {E : Value → Shared → Prop} {s : Shared}
theorem lex_small {Q : Bool → Shared → Prop} {b : Bool} : ∀ (ns ms : List Int) (xs ys : List Value) (i : Nat), IntsAre xs ns → IntsAre ys ms → ns.length = ms.length → Sm ns → Sm ms → Q (decide (rank ns < rank ms)) s → PySem.W.KatLex prog w A b false Q (xs.zip ys) i s
  | _, _, _, _, i, .nil, .nil, _, _, _, h => by
    have e : decide (rank [] < rank []) = false := decide_eq_false (Int.lt_irrefl _)
    rw [e] at h
    exact PySem.W.kat_nil h
  | _, _, _, _, i, .cons p t hx, .cons q u hy, hl, h1, h2, h => by
    rename_i xs ns ys ms
    have hl' : ns.length = ms.length := Nat.succ.inj hl
    refine PySem.W.kat_cons (wpAny_eqBool_int (PySem.W.kat_go (fun e => PySem.W.kat_yes ?_) fun e => PySem.W.kat_no (TS.oneLt_ints _ ?_)))
    · have e : p = q := by simpa using e
      subst e
      rw [decide_eq_decide.mpr (rank_same hl')] at h
      exact lex_small ns ms xs ys (i + 1) hx hy hl' h1.tail h2.tail h
    · have e : p ≠ q := by simpa using e
      rw [decide_eq_decide.mpr (rank_ne hl' h1.tail h2.tail e)] at h
      exact h
theorem firsts_small {h : Heap} {d : Nat} (hd : 1 ≤ d) : ∀ vs : List Value, (∀ v ∈ vs, SmT h d v) → ∃ fs, PySem.W.KatTups h vs fs ∧ fs.length = vs.length ∧ ∀ f ∈ fs, ∃ n t, f = Value.int n t
  | [], _ => ⟨[], .nil, rfl, fun f hf => absurd hf (by simp)⟩
  | v :: vs, x => by
    obtain ⟨fs, k, hl, hi⟩ := firsts_small hd vs fun u hu => x u (List.mem_cons_of_mem _ hu)
    obtain ⟨ns, ⟨a, xs, e, ⟨o, ho, hc, n, hdt⟩, i⟩, hn, _⟩ := x v List.mem_cons_self
    subst e
    obtain ⟨l⟩ := xs
    cases i with
    | nil => exact absurd hn (by simp; omega)
    | @cons m t xs' ns' i' =>
      exact ⟨Value.int m t :: fs, .cons ho hc hdt (by simp) k, congrArg Nat.succ hl, fun f hf => (List.mem_cons.mp hf).elim (fun e => ⟨m, t, e⟩) (hi f)⟩
theorem kind_small {d : Nat} {vs : List Value} (hd : 1 ≤ d) (h2 : 2 ≤ vs.length) (x : ∀ v ∈ vs, SmT s.heap d v) (Q : SortKind → Shared → Prop)
    (h : ∀ κ, TS.Cmp prog w A s κ (pairsOf vs) (fun v => rank (TS.intsOf s.heap v)) → Q κ s) : wpAny (model prog w) A (keyKind' vs.toArray) Q E s := by
  obtain ⟨fs, k, hl, hi⟩ := firsts_small hd vs x
  refine PySem.W.kat_kind (T := Value.type "int") k (by omega) (fun f hf => ?_) rfl (h _ fun p q hp hq Q' E' hQ => ?_)
  · obtain ⟨n, t, rfl⟩ := hi f hf
    exact PySem.W.Looks.of_pure rfl
  · rw [pairsOf_toList] at hp hq
    obtain ⟨ns, tp, lp, bp⟩ := x _ (mem_zip_self hp).2
    obtain ⟨ms, tq, lq, bq⟩ := x _ (mem_zip_self hq).2
    have hQ : Q' (decide (rank (TS.intsOf s.heap p.1) < rank (TS.intsOf s.heap q.1))) s := hQ
    rw [tp.ints, tq.ints] at hQ
    obtain ⟨a, xs, e1, ⟨o, ho, hc, n, hdt⟩, i⟩ := tp
    obtain ⟨b, ys, e2, ⟨o', ho', hc', n', hdt'⟩, i'⟩ := tq
    rw [e1, e2]
    refine PySem.W.kat_lt ho hdt ho' hdt' ?_
    have l1 := i.length
    have l2 := i'.length
    rw [Array.length_toList] at l1 l2
    rw [decide_eq_false (show ¬ xs.size < ys.size by omega)]
    exact lex_small ns ms _ _ 0 i i' (by omega) bp bq hQ
/-- list.sort of a list of such tuples: the same ones in some order -/
theorem sort_small {a : Addr} {vs : List Value} {n d : Nat} {Q : Value → Shared → Prop} (ho : s.heap.get? a = some (seqObj "list" vs.toArray n)) (h64 : vs.length < 64) (hd : 1 ≤ d) (x : ∀ v ∈ vs, SmT s.heap d v)
    (h : ∀ out : Array Value, out.toList.Perm vs → Q .none { s with heap := sortedHeap s.heap a vs out }) :
    wpAny (model prog w) A (call (.builtin "list.sort") [.ref a]) Q E s := by
  have old : ∀ b o, s.heap.get? b = some o → o.cls = .type "tuple" → (TS.midHeap s.heap a vs).get? b = some o := fun b o e hc => TS.midHeap_old (fun z => by
    rw [z, ho] at e
    have := Option.some.inj e
    rw [← this] at hc
    have hc : Value.type "list" = Value.type "tuple" := hc
    injection hc with hc
    exact absurd hc (by decide)) e
  refine wpAny_call_entry slot_list_sort ⟨_, ho, rfl⟩ entry_list_sort (SK.plain_sort (r := fun v => rank (TS.intsOf (TS.midHeap s.heap a vs) v)) ho h64 (fun h2 Q' hQ' => ?_) fun ps out h1 h2 h3 => ⟨_, rfl, h out (TS.out_rank (r := fun v => rank (TS.intsOf (TS.midHeap s.heap a vs) v)) h1 h2 h3).1⟩) (args_list_sort _)
  refine kind_small (s := { s with heap := TS.midHeap s.heap a vs }) hd h2 (fun v hv => ?_) Q' hQ'
  obtain ⟨ns, t, q⟩ := x v hv
  exact ⟨ns, t.keeps old, q⟩
end
section
variable {X : Cx}
/-- sorted(a set of tuples): a list of the same tuples, each once -/
def rSortedS (K : PySem.W.Frag) (P : Program) (w : World) : List V → Hp → VK → Prop := fun vs H Q => ∃ (a : Addr) (L : List (Addr × List Int)) (d : Nat), vs = [V.ref a] ∧ H a = some (SetTO P w a L) ∧ (∀ p ∈ L, SqT K H p.1 (p.2.map V.int)) ∧ 1 ≤ d ∧
  (∀ p ∈ L, p.2.length = d ∧ Sm p.2) ∧
  ∀ (ks : List Addr) (p : Addr), L.Nodup → ks.Perm (L.map (·.1)) → ks.length < 64 → H p = none → Q (.ref p) (upd H p (.lst (ks.map V.ref)))
theorem refs_of : ∀ vs : List Value, (∀ v ∈ vs, ∃ a, v = Value.ref a) → ∃ ks : List Addr, vs = ks.map Value.ref
  | [], _ => ⟨[], rfl⟩
  | v :: vs, h => by
    obtain ⟨a, e⟩ := h v List.mem_cons_self
    obtain ⟨ks, e2⟩ := refs_of vs fun u hu => h u (List.mem_cons_of_mem _ hu)
    exact ⟨a :: ks, by rw [e, e2, List.map_cons]⟩
theorem perm_refs {ks l : List Addr} (h : (ks.map Value.ref).Perm (l.map Value.ref)) : ks.Perm l := by
  have := h.map fun v : Value => match v with
    | .ref a => a
    | _ => 0
  rw [List.map_map, List.map_map] at this
  have e : ((fun v : Value => match v with
    | .ref a => a
    | _ => 0) ∘ Value.ref) = (id : Addr → Addr) := rfl
  rw [e, List.map_id, List.map_id] at this
  exact this
theorem vals_refs : ∀ ks : List Addr, Vals (ks.map V.ref) (ks.map Value.ref)
  | [] => .nil
  | a :: ks => .cons (show RelV (.ref a) (.ref a) from rfl) (vals_refs ks)
theorem cr_sortedS (hc : X.calm = true) : CallR X (.builtin "sorted") (rSortedS X.K X.prog X.w) := by
  intro pins s σ H vs us Q I r h
  obtain ⟨a, L, d, rfl, ha, hk, hd, hB, q⟩ := h
  have R0 : SetT0 X.prog X.w s.heap a L := (I.hok a _ ha).1
  obtain ⟨es, ep, t, R⟩ := R0.full fun p hp => I.isT (hk p hp)
  rw [Vals.ref1 r]
  obtain ⟨o, ho, hex, hdt⟩ := R.ob
  have hsz := R.size
  have hfew := R.few
  refine Calls.call_function_entry kind_sorted plain_sorted entry_sorted (args_sorted1 _) ?_
  unfold Builtin.«sorted»
  refine wpAny_bind (m := checkCount "sorted" 1 1 _) (wpAny_pure ?_)
  refine wpAny_bind (collect_set (I.ok.hd hc) ⟨o, ho, hex.1, hdt⟩ R.fits (by unfold scanBound; omega) R.tab.ris R.led fun s1 vs k1 hz g1 o1 pm => ?_)
  obtain ⟨sh, sg, sd, st, so⟩ := s1
  obtain rfl : sg = s.gens := g1
  obtain rfl : so = s.os := o1
  rw [R.rows, rowsOf, List.map_map] at pm
  have pm : vs.Perm ((L.map (·.1)).map Value.ref) := by
    rw [List.map_map]
    exact pm
  have hvl : vs.length < 64 := by
    rw [pm.length_eq, List.length_map, List.length_map]
    exact hfew
  refine wpAny_bind (wpAny_newList ?_ (by rw [sizeLine_eq]; omega))
  have hL : (sh.push (seqObj "list" vs.toArray 0)).get? sh.objs.size = some (seqObj "list" vs.toArray 0) := Heap.get?_push_size _ rfl
  have at_ : ∀ v ∈ vs, SmT (sh.push (seqObj "list" vs.toArray 0)) d v := fun v hv => by
    have hv := pm.mem_iff.mp hv
    rw [List.map_map] at hv
    obtain ⟨p, hp, rfl⟩ := List.mem_map.mp hv
    exact ⟨p.2, (tupInts_of (P := X.prog) (w := X.w) (R.tup p hp)).keeps fun b u e _ => Heap.get?_push_of_some _ (k1 b u e), hB p hp⟩
  refine wpAny_bind (wpAny_holding (sort_small (s := ⟨sh.push (seqObj "list" vs.toArray 0), s.gens, sd, st, s.os⟩) hL hvl hd at_ fun out a1 => ?_))
  obtain ⟨c, hc2⟩ := sortedHeap_at (vs := vs) (out := out) hL
  have po : out.toList.Perm ((L.map (·.1)).map Value.ref) := a1.trans pm
  obtain ⟨ks, ek⟩ := refs_of out.toList fun v hv => by
    obtain ⟨k, _, e⟩ := List.mem_map.mp (po.mem_iff.mp hv)
    exact ⟨k, e.symm⟩
  rw [ek] at po
  have pk := perm_refs po
  have lk : ks.length < 64 := by
    rw [pk.length_eq, List.length_map]
    exact hfew
  have hn : H sh.objs.size = none := I.hok.fresh hz
  have keep : ∀ b u, s.heap.get? b = some u → (sortedHeap (sh.push (seqObj "list" vs.toArray 0)) sh.objs.size vs out).get? b = some u := fun b u e => by
    have e1 := k1 b u e
    have lt := Heap.lt_size e1
    rw [sortedHeap_old (Nat.ne_of_lt lt) (by rw [size_push']; exact Nat.lt_succ_of_lt lt)]
    exact Heap.get?_push_of_some _ e1
  have J : Inv X pins σ (upd H sh.objs.size (.lst (ks.map V.ref))) { s with heap := sortedHeap (sh.push (seqObj "list" vs.toArray 0)) sh.objs.size vs out, gens := s.gens, drawn := sd, toks := st } :=
    I.call (ch := []) (Un.laid keep hz hn) (I.hok.laid keep hz ⟨by rw [List.length_map, sizeLine_eq]; omega, out.toList, c, by rw [ek]; exact vals_refs ks, hc2⟩) I.bare (fun _ z => nomatch z)
  exact wpAny_pure ⟨_, rfl, .ref sh.objs.size, _, J, rfl, q ks _ (nodup_of_map R.nd) pk lk hn⟩
theorem cr_sortedSK {K : PySem.W.Frag} {P : Program} {w : World} (hK : X.K = K) (hP : X.prog = P) (hw : X.w = w) (hc : X.calm = true) : CallR X (.builtin "sorted") (rSortedS K P w) := by
  subst hK hP hw
  exact cr_sortedS hc
theorem cr_setOfTK {K : PySem.W.Frag} {P : Program} {w : World} (hK : X.K = K) (hP : X.prog = P) (hw : X.w = w) (hc : X.calm = true) (hu : X.A.units + 64 < cLine) : CallR X (.type "set") (rSetOfT K P w) := by
  subst hK hP hw
  exact cr_setOfT hc hu
end
theorem pigeon {α : Type} [DecidableEq α] : ∀ (l k : List α), l.Nodup → (∀ x ∈ l, x ∈ k) → l.length ≤ k.length
  | [], _, _, _ => Nat.zero_le _
  | x :: l, k, hn, h => by
    obtain ⟨h1, h2⟩ := List.nodup_cons.mp hn
    have hx := h x List.mem_cons_self
    have ih := pigeon l (k.erase x) h2 fun y hy => (List.mem_erase_of_ne (show y ≠ x from fun e => h1 (by rw [← e]; exact hy))).mpr (h y (List.mem_cons_of_mem _ hy))
    rw [List.length_erase_of_mem hx] at ih
    have := List.length_pos_of_mem hx
    rw [List.length_cons]
    omega
end RM
namespace RM
open PySem PySem.Spec PyProof.Rows L2
/-! ### repr -/
structure DOk (d : PyData) : Prop where
  show_ : d.showable = true
  dict : d.hasDict = false
  depth : d.depth ≤ 8
  short : d.leavesShort 300 = true
  weight : d.weight ≤ 20000
theorem DOk.size {d : PyData} (h : DOk d) : d.shown.length ≤ sizeLine := by
  have e := PyData.shown_le 300 (by decide) d h.short
  have w := h.weight
  have : (300 + 2) * d.weight ≤ (300 + 2) * 20000 := Nat.mul_le_mul_left _ w
  rw [sizeLine_eq]
  omega
section
variable {X : Cx}
def rRepr (K : PySem.W.Frag) : List V → Hp → VK → Prop := fun xs H Q => ∃ a d, xs = [V.ref a] ∧ Dp K H (.ref a) d ∧ DOk d ∧ Q (.str d.shown) H
theorem cr_repr (hg : X.A.guards = some []) (hu : X.A.units + 64 < cLine) : CallR X (.builtin "repr") (rRepr X.K) := by
  intro pins s σ H xs us Q I r h
  obtain ⟨a, d, rfl, hd, ok, q⟩ := h
  obtain ⟨u, rfl, ru⟩ := vals1 r
  obtain rfl : u = Value.ref a := ru
  obtain ⟨as, rd⟩ := Dp.reads I d _ _ hd rfl
  exact repr_of_reads' rd ok.show_ (fun z => absurd (ok.dict.symm.trans z) Bool.false_ne_true) hg (by have := ok.depth; omega) (fun _ _ e => e) (fun h' u tk hk => ⟨.str d.shown, H, I.kept (t' := tk) hk, ⟨u, rfl⟩, q⟩) ok.size
end
/-! ### promises of defs that are called where no guard stands -/
structure FnOkG (P : Program) (w : World) (K : PySem.W.Frag) (mg : Str → Option Value) (base : Heap) (CX : CXT) (k : Nat) (f : Addr) (fd : FuncData) (ps : List Str) (sp : Sp) : Prop where
  len : ∀ vs H Q E, sp vs H Q E → vs.length = ps.length
  run : ∀ (A : Around) (outer : List Env) (s : Shared) (H : Hp) (args : Args) (us : List Value) (vs : List V) (Q : VK) (E : XK), A.guards = some [] → Room k A → Env0 P w K mg base A outer s H → BindsTo s fd args (ps.zip us) → Vals vs us → sp vs H Q E →
    codeAny (model P w) A (.call (.ref f) args) (CR CX outer P w H s Q E) s
/-- what the end of a body says, of a call -/
theorem cr_done {CX : CXT} {P : Program} {w : World} {K : PySem.W.Frag} {mg : Str → Option Value} {base : Heap} {N : List Str} {qual : Str} {scope : Scope} {f : Addr} {cd : Value} {A : Around} {outer : List Env} {s s' : Shared} {H H' : Hp} {E : XK} {Q : VK} {σ : L2.St} {v : V} {u : Value}
    (J : Inv (cxOf CX P w K mg base N qual scope f cd A outer s H E) [] σ H' s') (rv : RelV v u) (q : Q v H') : CE outer P w H s Q u s' := ⟨v, H', J.os, J.bare, J.base, J.hok, rv, q⟩
theorem FnOkG.make {CX : CXT} {P : Program} {w : World} {K : PySem.W.Frag} {mg : Str → Option Value} {base : Heap} {x qual : Str} {params : Arguments} {body : List Stmt} {scope : Scope} {dvs : List V} {kws : List (Str × V)} {f : Addr} {fd : FuncData} {N ps : List Str} {k : Nat} {sp : Sp}
    (F : FunD K x qual params body scope dvs kws f fd) (S : FnScope N ps scope) (len : ∀ vs H Q E, sp vs H Q E → vs.length = ps.length)
    (hbody : ∀ (cdv : Value), fd.code = cdv → ∀ (A : Around) (outer : List Env) (s : Shared) (H : Hp) (vs : List V) (Q : VK) (E : XK), A.guards = some [] → Room k (A.deeper (envOfC qual scope s.heap.objs.size f cdv)) → sp vs H Q E →
      ∃ t, PSs (cxOf CX P w K mg base N qual scope f cdv A outer s H E) body t ∧ t { nx := fun _ H' => Q .non H', rt := Q } (start N vs) H) : FnOkG P w K mg base CX (k + 1) f fd ps sp := by
  obtain ⟨oc, od, dV, kV, doc, pm, an, cdv, ct, osl, e, lk, hcd, _, _⟩ := F.ex
  subst e
  refine ⟨len, fun A outer s H args us vs Q E g hr e0 hb r hsp => ?_⟩
  have inS : K.In s.heap := e0.mod.kin.keeps fun b o e => (e0.bs b o e).1
  have nl : s.heap.NoLimit := e0.mod.nolimit.keeps fun b o e => (e0.bs b o e).1
  have par : ∀ y ∈ ps.zip us, scope.names.lookup y.1 = some .local ∨ (scope.names.lookup y.1 = some .cell ∧ ((cellsFrom (s.heap.objs.size + 1) scope.names []).lookup y.1).isSome = true) := by
    intro y hy
    rcases S.par y.1 (List.of_mem_zip (a := y.1) (b := y.2) hy).1 with z | z
    · exact .inl z
    · exact .inr ⟨z, PySem.W.cellsFrom_some _ _ _ (.inl z)⟩
  refine codeAny_call_function hr.depth (inS _ _ lk) rfl S.co S.gen rfl (PySem.W.codeRec_of inS hcd) (hb _ _ _ _ (wpAny_newFunctionEnv_cells S.kind par fun env he s1 x => ?_))
  subst he
  obtain ⟨t, ht, hq⟩ := hbody cdv rfl A outer s H vs Q E g (hr.deeper _) hsp
  refine ⟨nl.keeps x.toInCall.keep, codeAny_func (wpAny_mono (ht.run [] s1 (start N vs) H _ (inv_start S hr.hd e0 (len _ _ _ _ hsp) r x) hq) (fun fl s' hs => ?_) fun e s' hs => hs)⟩
  match fl, hs with
  | .next, ⟨_, _, J, q⟩ => exact cr_done (v := V.non) (u := Value.none) J rfl q
  | .ret _, ⟨_, _, _, J, rv, q⟩ => exact cr_done J rv q
  | .brk, ⟨_, _, _, q⟩ => exact q.elim
  | .cont, ⟨_, _, _, q⟩ => exact q.elim
theorem FnOkG.of {CX : CXT} {P : Program} {w : World} {K : PySem.W.Frag} {mg : Str → Option Value} {base : Heap} {k : Nat} {f : Addr} {fd : FuncData} {ps : List Str} {sp : Sp} (F : FnOk P w K mg base CX k f fd ps sp) : FnOkG P w K mg base CX k f fd ps sp :=
  ⟨F.len, fun A outer s H args us vs Q E _ => F.run A outer s H args us vs Q E⟩
theorem FnOkG.mono {CX : CXT} {P : Program} {w : World} {K : PySem.W.Frag} {mg : Str → Option Value} {base : Heap} {j k : Nat} {f : Addr} {fd : FuncData} {ps : List Str} {sp : Sp} (F : FnOkG P w K mg base CX j f fd ps sp) (h : j ≤ k) : FnOkG P w K mg base CX k f fd ps sp :=
  ⟨F.len, fun A outer s H args us vs Q E g hr => F.run A outer s H args us vs Q E g (hr.mono h)⟩
section
variable {X : Cx} {CX : CXT} {k : Nat} {f : Addr} {fd : FuncData} {ps : List Str} {sp : Sp} {E : XK} {x : Str} {p pos : Pos} {e : Expr} {es : List Expr} {t : TA}
/-- f(e, ..) where no guard stands -/
theorem pe_callG (g : X.A.guards = some []) (F : FnOkG X.prog X.w X.K X.mg X.base CX k f fd ps sp) (hr : Room k X.A) (hg : Gl X x) (hm : X.mg x = some (.ref f)) (hk : PySem.W.keepIn X.K (.ref f) = true) (hb : Binds X.K fd ps []) (hx : Passes CX X E)
    (ha : PA X (e :: es) t) (hdb : (x == ("__debug__" : Str)) = false := by decide) (he : starEach (e :: es) X.env = (false, eval e X.env) :: starEach es X.env := by rfl) (hpl : (backTo pos (starEach es X.env)).any (·.1) = false := by rfl) :
    PE X (.Call (.Name x p) (e :: es) [] pos) (tCall sp [] E t) := by
  refine ⟨fun pins s σ H Q I h => wpAny_Call_Name_kw (ld_glob I hg hm ?_ hdb)⟩
  refine PySem.W.callWith_K (h₀ := X.base) I.ok.mod.kin hk (thn (ha.run pos pins s σ H _ I h) fun us s1 ⟨vs, H1, J, r, q⟩ => ⟨J.kIn, ?_⟩) he hpl
  have q : sp vs H1 Q E := by
    have z : sp (vs ++ []) H1 Q E := q
    rw [List.append_nil] at z
    exact z
  have hl : us.length = ps.length := r.length.symm.trans (F.len _ _ _ _ q)
  have hb1 := hb s1 us J.kIn (by rw [List.append_nil]; exact hl)
  rw [List.append_nil] at hb1
  refine wpAny_call (codeAny_mono (F.run X.A X.stack s1 H1 ⟨us, []⟩ us vs Q E g hr J.env0 hb1 r q) fun res s' z => ?_)
  match res, z with
  | .error e, z => exact hx pins σ H1 s1 e s' J z
  | .ok (.ret u), z => exact J.after z
  | .ok .next, z => exact z.elim
  | .ok .brk, z => exact z.elim
  | .ok .cont, z => exact z.elim
end
/-- a def that may be called by its name where no guard stands -/
def CalG (CX : CXT) (P : Program) (w : World) (K : PySem.W.Frag) (mg : Str → Option Value) (base : Heap) (x : Str) (ps : List Str) (k : Nat) (sp : Sp) : Prop :=
  ∃ f fd, mg x = some (.ref f) ∧ PySem.W.keepIn K (.ref f) = true ∧ Binds K fd ps [] ∧ FnOkG P w K mg base CX k f fd ps sp
theorem CalG.make {CX : CXT} {P : Program} {w : World} {K : PySem.W.Frag} {mg : Str → Option Value} {base : Heap} {x : Str} {st : Stmt} {N ps : List Str} {k : Nat} {sp : Sp} (D : Def K mg x st) (S : FnScope N ps (defScope st))
    (hb : ∀ (kV doc pm : Value) (an : Option Addr) (cdv ct : Value) (us : List Value), us.length = ps.length → bindArgs (PySem.W.fnOf x x (defArgs st) (defBody st) (defScope st) .none kV doc pm an cdv ct) ⟨us, []⟩ = pure (ps.zip us))
    (len : ∀ vs H Q E, sp vs H Q E → vs.length = ps.length)
    (body : ∀ (f : Addr) (cdv : Value) (A : Around) (outer : List Env) (s : Shared) (H : Hp) (vs : List V) (Q : VK) (E : XK), A.guards = some [] → Room k (A.deeper (envOfC x (defScope st) s.heap.objs.size f cdv)) → sp vs H Q E →
      ∃ t, PSs (cxOf CX P w K mg base N x (defScope st) f cdv A outer s H E) (defBody st) t ∧ t { nx := fun _ H' => Q .non H', rt := Q } (start N vs) H) : CalG CX P w K mg base x ps (k + 1) sp := by
  obtain ⟨f, fd, hm, F⟩ := D
  exact ⟨f, fd, hm, F.kp, F.bindsN hb, FnOkG.make F S len fun cdv _ => body f cdv⟩
/-- a def of the text whose code object is known -/
def DefC (K : PySem.W.Frag) (mg : Str → Option Value) (x : Str) (st : Stmt) (c : Addr) : Prop :=
  ∃ f fd, mg x = some (.ref f) ∧ FunD K x x (defArgs st) (defBody st) (defScope st) [] [] f fd ∧ fd.code = .ref c
theorem CalG.makeC {CX : CXT} {P : Program} {w : World} {K : PySem.W.Frag} {mg : Str → Option Value} {base : Heap} {x : Str} {st : Stmt} {N ps : List Str} {k : Nat} {sp : Sp} {c : Addr} (D : DefC K mg x st c) (S : FnScope N ps (defScope st))
    (hb : ∀ (kV doc pm : Value) (an : Option Addr) (cdv ct : Value) (us : List Value), us.length = ps.length → bindArgs (PySem.W.fnOf x x (defArgs st) (defBody st) (defScope st) .none kV doc pm an cdv ct) ⟨us, []⟩ = pure (ps.zip us))
    (len : ∀ vs H Q E, sp vs H Q E → vs.length = ps.length)
    (body : ∀ (f : Addr) (A : Around) (outer : List Env) (s : Shared) (H : Hp) (vs : List V) (Q : VK) (E : XK), A.guards = some [] → Room k (A.deeper (envOfC x (defScope st) s.heap.objs.size f (.ref c))) → sp vs H Q E →
      ∃ t, PSs (cxOf CX P w K mg base N x (defScope st) f (.ref c) A outer s H E) (defBody st) t ∧ t { nx := fun _ H' => Q .non H', rt := Q } (start N vs) H) : CalG CX P w K mg base x ps (k + 1) sp := by
  obtain ⟨f, fd, hm, F, hc⟩ := D
  refine ⟨f, fd, hm, F.kp, F.bindsN hb, FnOkG.make F S len fun cdv e => ?_⟩
  obtain rfl : Value.ref c = cdv := hc.symm.trans e
  exact body f
end RM
namespace RM
open PySem PySem.Spec PyProof.Rows L2
/-! ### a call with keywords alone -/
theorem kbn_all {K : PySem.W.Frag} {x qual : Str} {params : Arguments} {body : List Stmt} {scope : Scope} {kws : List (Str × V)} {f : Addr} {fd : FuncData} {ps ks : List Str} (F : FunD K x qual params body scope [] kws f fd) (gV : List V → List V) (g : List Value → List Value)
    (hrel : ∀ (zs : List V) (ws : List Value), Vals zs ws → Vals (gV zs) (g ws))
    (h : ∀ (kV doc pm : Value) (an : Option Addr) (cdv ct : Value) (ws : List Value), ws.length = ks.length → bindArgs (PySem.W.fnOf x qual params body scope .none kV doc pm an cdv ct) ⟨[], ks.zip ws⟩ = pure (ps.zip (g ws))) :
    KBn K fd ps 0 ks (fun _ ws => g ws) (fun _ zs => gV zs) := by
  obtain ⟨oc, od, dV, kV, doc, pm, an, cdv, ct, osl, rfl, lk, hcd, hD, hK⟩ := F.ex
  rcases hD with ⟨_, rfl⟩ | ⟨e, _⟩
  · refine ⟨fun s us ws _ l1 l2 => ?_, fun _ r => hrel _ _ r⟩
    obtain rfl := List.eq_nil_of_length_eq_zero l1
    exact .of_eq (h kV doc pm an cdv ct ws l2)
  · exact absurd rfl e
def tKw (sp : Sp) (gV : List V → List V) (n : Nat) (E : XK) (tk : TA) : TE := fun σ H Q => tk σ H fun zs H1 => zs.length = n ∧ sp (gV zs) H1 Q E
section
variable {X : Cx} {CX : CXT} {k : Nat} {f : Addr} {fd : FuncData} {ps ks : List Str} {sp : Sp} {E : XK} {x : Str} {p pos : Pos} {kws : List Keyword} {tk : TA} {g : List Value → List Value} {gV : List V → List V}
theorem pe_kw (F : FnOk X.prog X.w X.K X.mg X.base CX k f fd ps sp) (hr : Room k X.A) (hg : Gl X x) (hm : X.mg x = some (.ref f)) (hk : PySem.W.keepIn X.K (.ref f) = true) (hb : KBn X.K fd ps 0 ks (fun _ ws => g ws) (fun _ zs => gV zs)) (hx : Passes CX X E) (hkw : PK X kws tk)
    (hall : (backToKw pos (keywordEach kws X.env)).all (·.1.isSome) = true := by rfl) (hks : (backToKw pos (keywordEach kws X.env)).filterMap (·.1) = ks := by rfl) (hdb : (x == ("__debug__" : Str)) = false := by decide)
    (hpl : ((backTo pos (starEach [] X.env)).any (·.1) || (backToKw pos (keywordEach kws X.env)).any (·.1.isNone)) = false := by rfl) :
    PE X (.Call (.Name x p) [] kws pos) (tKw sp gV ks.length E tk) := by
  refine ⟨fun pins s σ H Q I h => wpAny_Call_Name_kw (ld_glob I hg hm (PySem.W.callWith_KW0 (h₀ := X.base) I.ok.mod.kin hk hall ?_ hpl) hdb)⟩
  refine thn (hkw.run pos pins s σ H _ I h) fun ws s2 ⟨zs, H2, J, rz, l2, q2⟩ => ⟨J.kIn, ?_⟩
  rw [hks]
  exact run_fnN (us := []) (vs := []) F hr hb hx J .nil rz rfl l2 q2
end
/-- a def that may be called by its name, with values or with keywords alone -/
def CalW (CX : CXT) (P : Program) (w : World) (K : PySem.W.Frag) (mg : Str → Option Value) (base : Heap) (x : Str) (ps ks : List Str) (gV : List V → List V) (k : Nat) (sp : Sp) : Prop :=
  ∃ f fd, mg x = some (.ref f) ∧ PySem.W.keepIn K (.ref f) = true ∧ Binds K fd ps [] ∧ (∃ g : List Value → List Value, KBn K fd ps 0 ks (fun _ ws => g ws) (fun _ zs => gV zs)) ∧ FnOk P w K mg base CX k f fd ps sp
theorem CalW.make {CX : CXT} {P : Program} {w : World} {K : PySem.W.Frag} {mg : Str → Option Value} {base : Heap} {x : Str} {st : Stmt} {N ps ks : List Str} {k : Nat} {sp : Sp} (gV : List V → List V) (g : List Value → List Value) (hrel : ∀ (zs : List V) (ws : List Value), Vals zs ws → Vals (gV zs) (g ws))
    (h : ∀ (kV doc pm : Value) (an : Option Addr) (cdv ct : Value) (ws : List Value), ws.length = ks.length → bindArgs (PySem.W.fnOf x x (defArgs st) (defBody st) (defScope st) .none kV doc pm an cdv ct) ⟨[], ks.zip ws⟩ = pure (ps.zip (g ws)))
    (D : Def K mg x st) (S : FnScope N ps (defScope st))
    (hb : ∀ (kV doc pm : Value) (an : Option Addr) (cdv ct : Value) (us : List Value), us.length = ps.length → bindArgs (PySem.W.fnOf x x (defArgs st) (defBody st) (defScope st) .none kV doc pm an cdv ct) ⟨us, []⟩ = pure (ps.zip us))
    (len : ∀ vs H Q E, sp vs H Q E → vs.length = ps.length)
    (body : ∀ (f : Addr) (cdv : Value) (A : Around) (outer : List Env) (s : Shared) (H : Hp) (vs : List V) (Q : VK) (E : XK), Room k (A.deeper (envOfC x (defScope st) s.heap.objs.size f cdv)) → sp vs H Q E →
      ∃ t, PSs (cxOf CX P w K mg base N x (defScope st) f cdv A outer s H E) (defBody st) t ∧ t { nx := fun _ H' => Q .non H', rt := Q } (start N vs) H) : CalW CX P w K mg base x ps ks gV (k + 1) sp := by
  obtain ⟨f, fd, hm, F⟩ := D
  exact ⟨f, fd, hm, F.kp, F.bindsN hb, ⟨g, kbn_all F gV g hrel h⟩, F.ok S len (body f)⟩
def perm3 {α : Type} : List α → List α
  | [a, b, c] => [b, c, a]
  | _ => []
theorem perm3_rel : ∀ (zs : List V) (ws : List Value), Vals zs ws → Vals (perm3 zs) (perm3 ws)
  | [], _, .nil => .nil
  | [_], _, .cons _ .nil => .nil
  | [_, _], _, .cons _ (.cons _ .nil) => .nil
  | [_, _, _], _, .cons a (.cons b (.cons c .nil)) => .cons b (.cons c (.cons a .nil))
  | _ :: _ :: _ :: _ :: _, _, .cons _ (.cons _ (.cons _ (.cons _ _))) => .nil
end RM
namespace RM
open PySem PySem.Spec PyProof.Rows L2
/-! ### the class NotUsable and its __init__ -/
def clsBody (s : Stmt) : List Stmt := match s with
  | .ClassDef _ _ _ b _ _ _ _ _ _ _ => b
  | _ => []
abbrev nuInit : Stmt := (clsBody (topS 29)).getD 0 (.Pass ⟨0, 0, 0, 0⟩)
/-- what the written part says of the class at C, of its __init__ at fI -/
structure NuTxt (K : PySem.W.Frag) (file : Str) (C fI : Addr) : Prop where
  cls : ∃ nm q N bs bm sn sub ab col dd k0 k1 k2 k3 k5, K.lookup C = some (excClassObj nm q C N bs bm true sn sub ab col dd k0 k1 k2 k3 k5 "ValueError.__new__") ∧ PySem.HandSPX.refsVE bm = true
  sa : PySem.W.findIn K (.ref C) "__setattr__" = some (some (.builtin "object.__setattr__"))
  ec : ExcC K C
  noW : PySem.W.findIn K (.ref C) "word" = some none
  noA : PySem.W.findIn K (.ref C) "at" = some none
  iC : PySem.W.findIn K (.ref C) "__init__" = some (some (.ref fI))
  tI : PySem.W.typeIn K (.ref fI) = some (.type "function")
  kC : PySem.W.keepIn K (.ref C) = true
  tyC : PySem.W.typeIn K (.ref C) = some (.type "type")
  ve : PySem.W.subIn K (.ref C) (.type "ValueError") = some true
  sup : PySem.W.ks_superIn K C C "__init__" = some (some (.builtin "ValueError.__init__"))
  own : PySem.W.mroIn K C (.ref C) = some true
  third : PySem.W.nsIn K cStatics "thirdparty.any" = some none
  fn : ∃ (oc : Value) (od : Option Addr) (doc pm : Value) (an : Option Addr) (cda cc : Addr) (ct : Value) (osl : Array (Option Value)) (ccl : Value) (cdd : Option Addr) (vs : Array Value) (ccs : Array (Option Value)) (tf : Tok) (cl : Value) (cld : Option Addr) (csl : Array (Option Value)),
    K.lookup fI = some ⟨oc, od, .func (PySem.W.ksFn "__init__" "NotUsable.__init__" (defArgs nuInit) (defBody nuInit) (defScope nuInit) .none .none doc pm an (.ref cda) ct cc), osl⟩ ∧ PySem.W.codeIn K (.ref cda) "NotUsable.__init__" = true ∧
    K.lookup cda = some ⟨ccl, cdd, .fields vs, ccs⟩ ∧ vs[2]? = some (.str file tf) ∧ K.lookup cc = some ⟨cl, cld, .cell (some (.ref C)), csl⟩
/-- what __init__ leaves of a fresh exception at x: its dict dx holds word and at -/
structure NuEnd (h h' : Heap) (x C dx : Addr) (v u : Value) : Prop where
  keep : ∀ b o, b ≠ x → h.get? b = some o → h'.get? b = some o
  obj : ∃ t1 : Addr, h'.get? x = some { cls := .ref C, dict := some dx, data := .fields #[.ref t1, .none, .none, .none, .bool false, .none] }
  dbig : h.objs.size ≤ dx
  dne : dx ≠ x
  ns : h'.Ns1 dx (fun y => if y = "at" then some u else if y = "word" then some v else none)
section
open PySem.W PySem.Calls PySem.HandSPX
variable {prog : Program} {w : World} {A : Around} {E : Value → Shared → Prop} {R : Result → Shared → Prop} {s : Shared} {K : PySem.W.Frag} {mg mb : Str → Option Value} {C fI : Addr}
theorem in_but {h h' : Heap} {x : Addr} (X : K.In h) (hx : K.lookup x = none) (k : ∀ b o, b ≠ x → h.get? b = some o → h'.get? b = some o) : K.In h' := fun a o e =>
  k a o (fun z => by rw [z, hx] at e; cases e) (X a o e)
/-- the bound ValueError.__init__ called -/
theorem mw_call {u x t0 : Addr} {rest : List Value} {Q : Value → Shared → Prop} (T : NuTxt K prog.main.file C fI) (X : K.In s.heap) (hx : s.heap.get? x = some (excO C t0)) (hu : s.heap.get? u = some (kxs_mw "ValueError.__init__" x)) (hz : rest.length ≤ sizeLine)
    (h : ∀ h' t1, (∀ b o, b ≠ x → s.heap.get? b = some o → h'.get? b = some o) → h'.get? x = some (excO C t1) → Q .none { s with heap := h' }) : wpAny (model prog w) A (call (.ref u) rest) Q E s := by
  obtain ⟨nm, q, N, bs, bm, sn, sub, ab, col, dd, k0, k1, k2, k3, k5, hC, hbm⟩ := T.cls
  have hC := X _ _ hC
  have FB := F.excBase_ValueError
  obtain ⟨hh, g, d, tk, os⟩ := s
  refine wpAny_call (codeAny_of_tree ?_)
  show wpAny _ A.in1 (callAny (.ref u) ⟨rest, []⟩) _ _ _
  simp only [callAny]
  refine wpAny_bind (wpAny_load hu ?_)
  simp only [kxs_mw, show (Value.type "method-wrapper" == Value.type "method" || Value.type "method-wrapper" == Value.type "builtin_function_or_method" || Value.type "method-wrapper" == Value.type "method-wrapper") = true by decide, if_true]
  refine KFB.if_so (by decide) ?_
  refine wpAny_bind (check_bound_init FB.toExcCallFacts hC hx rfl ?_)
  refine wpAny_bind (wpAny_pure (wpAny_pure ?_))
  refine ⟨plainId_quiet FB.init.plain _, codeAny_builtin FB.initEntry ?_⟩
  exact exc_init_tree (cls := .ref C) (t0 := t0) (dv := none) (c2 := .none) (c3 := .none) (b4 := .bool false) hx hz fun h' k e' _ => h h' _ k e'
theorem ld_at {M : Model} {env : Env} {m : Str → Option Value} {x : Str} {pos : Pos} {v : Value} {Q : Value → Shared → Prop} (hk : env.scope.kind = .function) (hl : env.kindOf x = some .local) (hn : s.heap.Ns env.locals m) (hv : m x = some v) (h : Q v s) (hd : (x == ("__debug__" : Str)) = false := by decide) :
    wpAny M A (eval (.Name x pos) env) Q E s := wpAny_Name (wpAny_loadName_local hk hl hn hv h) hd
theorem nu_init (T : NuTxt K prog.main.file C fI) {x t0 : Addr} {v u : Value} (X : K.In s.heap) (hlim : s.heap.NoLimit) (hx : s.heap.get? x = some (excO C t0)) (hnx : K.lookup x = none) (hroom : A.depth < recursionLimit)
    (hmg : s.heap.Ns mainGlobals mg) (hsup : mg "super" = none) (hmb : s.heap.Ns builtinsNs mb) (hbb : mb "super" = some (.type "super")) (htop : (prog.main.scope.names.lookup ("super" : Str)).isSome = false)
    (hq : ∀ h' tk dx, NuEnd s.heap h' x C dx v u → R (.ok (.ret .none)) { s with heap := h', toks := tk }) :
    codeAny (model prog w) A (.call (.ref fI) ⟨[.ref x, v, u], []⟩) R s := by
  obtain ⟨oc, od, doc, pm, an, cda, cc, ct, osl, ccl, cdd, cvs, ccs, tf, cl, cld, csl, ho, hcd, hcda, hfile, hcell⟩ := T.fn
  obtain ⟨nm, q, N, bs, bm, sn, sub, ab, col, dd, k0, k1, k2, k3, k5, hC, hbm⟩ := T.cls
  have hcl : clsIn K C = some { name := nm, bases := bs, mro := .ref C :: bm, ns := N, qualname := q, hasDict := true, slotNames := sn, subclasses := sub, abstract := ab, collection := col, hasDel := false } := by unfold clsIn; rw [hC] <;> rfl
  obtain ⟨hh, g, d, tk, os⟩ := s
  refine ks_codeAny_call_defAt (body := defBody nuInit) (binds := [("self", .ref x), ("word", v), ("at", u)]) hroom (X _ _ ho) rfl hlim (codeRec_of X hcd) rfl (BindsTo.of_eq (by first | rfl | with_unfolding_all rfl)) ?_ ?_ (fun h₀ hns k => ?_)
  · show ∀ x ∈ (defScope nuInit).names, x.2 ≠ .cell
    decide +kernel
  · intro y hy
    simp only [List.mem_cons, List.not_mem_nil, or_false] at hy
    rcases hy with rfl | rfl | rfl
    · show (defScope nuInit).names.lookup ("self" : Str) = some .local
      decide +kernel
    · show (defScope nuInit).names.lookup ("word" : Str) = some .local
      decide +kernel
    · show (defScope nuInit).names.lookup ("at" : Str) = some .local
      decide +kernel
  have X0 : K.In h₀ := X.keeps k
  have hx0 := k _ _ hx
  have mS : (fun y : Str => List.lookup y [(("at" : Str), u), ("word", v), ("self", .ref x)]) "self" = some (.ref x) := by first | rfl | with_unfolding_all rfl | kernel_rfl
  have mW : (fun y : Str => List.lookup y [(("at" : Str), u), ("word", v), ("self", .ref x)]) "word" = some v := by first | rfl | with_unfolding_all rfl | kernel_rfl
  have mA : (fun y : Str => List.lookup y [(("at" : Str), u), ("word", v), ("self", .ref x)]) "at" = some u := by first | rfl | with_unfolding_all rfl | kernel_rfl
  have hns : h₀.Ns hh.objs.size (fun y : Str => List.lookup y [(("at" : Str), u), ("word", v), ("self", .ref x)]) := hns
  have hxC : x ≠ C := fun z => by
    rw [z, hC] at hnx
    cases hnx
  have isub : ∀ {h' : Heap}, (∀ b o, h₀.get? b = some o → h'.get? b = some o) → PySem.W.Looks (model prog w) h' (isInstance (.ref x) (.type "ValueError")) true := fun {h'} k' =>
    (InstAt.type (x := x) (ox := excO C t0) (C := C) (od := none) ⟨k' _ _ hx0, rfl, rfl, trivial⟩).andThen (looks_subIn (X0.keeps k') T.ve)
  -- super().__init__(word, at)
  refine ks_wpAt_execs_cons (ks_wpAt_Expr_any (ks_wpAt_MethodCall ?_))
  refine ks_wpAt_super_base (by kernel_rfl) (by kernel_rfl) (by decide) rfl (X0 _ _ ho) rfl (ar := (defArgs nuInit).args.getD 0 default) (by rfl) rfl (X0 _ _ hcda) rfl hfile (by simp) htop ?_
  refine ks_loadName_global rfl (by kernel_rfl) (loadGlobal_builtin (hmg.keeps k) hsup (hmb.keeps k) hbb ⟨rfl, ?_⟩)
  refine wpAny_loadName_free rfl (by kernel_rfl) rfl ⟨_, X0 _ _ hcell, rfl⟩ ?_
  refine wpAny_loadName_local rfl (by kernel_rfl) hns mS ?_
  refine ks_wpAny_isType_cls (X0 _ _ hC) rfl ⟨rfl, ?_⟩
  refine ks_wpAny_call_super (X0 _ _ hC) rfl hx0 rfl (fun c z => by cases z) (looks_mroIn X0 T.own) (fun h1 hso k1 => ?_)
  have X1 := X0.keeps k1
  refine kxs_getMethod kxs_ValueError hso (looks_opaque X1 T.third) (l₀ := .ref C :: bm) (fun A Q E s k q => wpAny_bind ((looks_clsIn X1 hcl) A _ E s k (wpAny_pure q))) rfl X1 ?_ (isub k1) hxC (by decide) ?_
  · have e := T.sup
    unfold ks_superIn at e
    rw [hcl] at e
    exact e
  have k2 : ∀ b o, h1.get? b = some o → (h1.push (kxs_mw "ValueError.__init__" x)).get? b = some o := fun b o e => Heap.get?_push_of_some _ e
  have hu : (h1.push (kxs_mw "ValueError.__init__" x)).get? h1.objs.size = some (kxs_mw "ValueError.__init__" x) := Heap.get?_push_at rfl rfl
  generalize h1.push (kxs_mw "ValueError.__init__" x) = h2 at k2 hu
  have K2 : ∀ b o, h₀.get? b = some o → h2.get? b = some o := fun b o e => k2 b o (k1 b o e)
  refine kxs_callWith (i := "ValueError.__init__") (x := x) rfl (evalArgs_plain ?_)
  have hns2 : h2.Ns hh.objs.size (fun y : Str => List.lookup y [(("at" : Str), u), ("word", v), ("self", .ref x)]) := hns.keeps K2
  refine spliced_cons ?_
  show wpAny _ _ (eval (.Name "word" _) _) _ _ _
  refine ld_at rfl (by kernel_rfl) hns2 mW ?_
  refine spliced_cons ?_
  show wpAny _ _ (eval (.Name "at" _) _) _ _ _
  refine ld_at rfl (by kernel_rfl) hns2 mA ?_
  refine spliced_nil ⟨hu, ?_⟩
  refine mw_call T (X0.keeps K2) (K2 _ _ hx0) hu (by show 2 ≤ sizeLine; decide) fun h3 t1 k3 hx3 => ?_
  have hxL : hh.objs.size ≠ x := Nat.ne_of_gt (Heap.lt_size hx)
  have hns3 : h3.Ns hh.objs.size (fun y : Str => List.lookup y [(("at" : Str), u), ("word", v), ("self", .ref x)]) := by
    obtain ⟨o, es, ep, a1, a2, a3⟩ := hns2
    exact ⟨o, es, ep, k3 _ _ hxL a1, a2, a3⟩
  have kx3 : ∀ b o, b ≠ x → hh.get? b = some o → h3.get? b = some o := fun b o n e => k3 b o n (K2 b o (k b o e))
  have X3 : K.In h3 := in_but (X0.keeps K2) hnx k3
  have L3 : hh.objs.size < h3.objs.size := hns3.lt
  -- self.word = word
  refine wpAt_of_wpAny ?_
  show wpAny _ _ (execs _ _) _ _ _
  refine wpAny_execs_cons (plainObj_wpAny_Assign_Attribute ?_)
  refine ld_at rfl (by kernel_rfl) hns3 mW (ld_at rfl (by kernel_rfl) hns3 mS ?_)
  refine set_plain X3 (ox := excO C t1) (od := none) ⟨hx3, rfl, rfl, trivial⟩ T.sa ?_
  refine exc_osa X3 hx3 hcl (show refsVE (.ref C :: bm) = true from hbm) rfl T.noW (fun h4 tk4 dx k4 dn dne hx4 hn4 => ?_)
  have hns4 : h4.Ns hh.objs.size (fun y : Str => List.lookup y [(("at" : Str), u), ("word", v), ("self", .ref x)]) := by
    obtain ⟨o, es, ep, a1, a2, a3⟩ := hns3
    exact ⟨o, es, ep, k4 _ _ hxL a1, a2, a3⟩
  have X4 : K.In h4 := in_but X3 hnx k4
  have LdxL : hh.objs.size ≠ dx := Nat.ne_of_lt (Nat.lt_of_lt_of_le L3 dn)
  have hndx : K.lookup dx = none := by
    cases e : K.lookup dx with
    | none => rfl
    | some o => exact absurd (Nat.lt_of_lt_of_le (Heap.lt_size (X3 _ _ e)) dn) (Nat.lt_irrefl _)
  -- self.at = at
  show wpAny _ _ (execs _ _) _ _ _
  refine wpAny_execs_cons (plainObj_wpAny_Assign_Attribute ?_)
  refine ld_at rfl (by kernel_rfl) hns4 mA (ld_at rfl (by kernel_rfl) hns4 mS ?_)
  have wth : Within (fun y : Str => if y = "word" then some v else none) [("word" : Str)] := Within.cons ("word" : Str) v Within.nil
  obtain ⟨oD, esD, epD, hoD, hdD, _⟩ := hn4.count wth
  refine set_plain X4 (ox := { cls := .ref C, dict := some dx, data := .fields #[.ref t1, .none, .none, .none, .bool false, .none] }) (od := some oD) ⟨hx4, rfl, rfl, hoD⟩ T.sa ?_
  refine OEX.osa_old X4 hx4 hn4 wth (by decide) hcl (show refsVE (.ref C :: bm) = true from hbm) rfl T.noA (fun h5 tk5 k5 hn5 => ?_)
  show wpAny _ _ (execs _ _) _ _ _
  refine wpAny_execs_nil (hq h5 tk5 dx ⟨fun b o n e => ?_, ⟨t1, k5 _ _ (Ne.symm dne) hx4⟩, Nat.le_of_lt (Nat.lt_of_lt_of_le L3 dn), dne, hn5⟩)
  have b3 := kx3 b o n e
  have nb : b ≠ dx := Nat.ne_of_lt (Nat.lt_of_lt_of_le (Heap.lt_size b3) dn)
  exact k5 b o nb (k4 b o n b3)
end
end RM
namespace RM
open PySem PySem.Spec PyProof.Rows L2
/-- a made NotUsable -/
structure NuMade (h h' : Heap) (e C d : Addr) (v u : Value) : Prop where
  keep : ∀ b o, h.get? b = some o → h'.get? b = some o
  new : h.objs.size ≤ e
  obj : ∃ oe vs, h'.get? e = some oe ∧ oe.cls = .ref C ∧ oe.dict = some d ∧ oe.data = .fields vs ∧ vs[1]? = some .none
  dbig : h.objs.size ≤ d
  dne : d ≠ e
  ns : h'.Ns1 d (fun y => if y = "at" then some u else if y = "word" then some v else none)
section
open PySem.W PySem.Calls PySem.HandSPX
variable {prog : Program} {w : World} {A : Around} {E : Value → Shared → Prop} {R : Result → Shared → Prop} {s : Shared} {K : PySem.W.Frag} {mg mb : Str → Option Value} {C fI : Addr}
theorem nu_made (T : NuTxt K prog.main.file C fI) {v u : Value} (X : K.In s.heap) (hlim : s.heap.NoLimit) (hroom : A.depth + 1 < recursionLimit)
    (hmg : s.heap.Ns mainGlobals mg) (hsup : mg "super" = none) (hmb : s.heap.Ns builtinsNs mb) (hbb : mb "super" = some (.type "super")) (htop : (prog.main.scope.names.lookup ("super" : Str)).isSome = false)
    (hq : ∀ h' tk e d, NuMade s.heap h' e C d v u → R (.ok (.ret (.ref e))) { s with heap := h', toks := tk }) :
    codeAny (model prog w) A (.call (.ref C) ⟨[v, u], []⟩) R s := by
  obtain ⟨nm, q, N, bs, bm, sn, sub, ab, col, dd, k0, k1, k2, k3, k5, hC, hbm⟩ := T.cls
  obtain ⟨hp, g, dr, tk, os⟩ := s
  have k : ∀ b o, hp.get? b = some o → ((hp.push (kdv_tup [v, u])).push (excO C hp.objs.size)).get? b = some o := fun b o e => Heap.get?_push_of_some _ (Heap.get?_push_of_some _ e)
  have hget : ((hp.push (kdv_tup [v, u])).push (excO C hp.objs.size)).get? (hp.objs.size + 1) = some (excO C hp.objs.size) := by heap_get
  have hnx : K.lookup (hp.objs.size + 1) = none := by
    cases e : K.lookup (hp.objs.size + 1) with
    | none => rfl
    | some o =>
      have z : hp.get? (hp.objs.size + 1) = some o := X _ _ e
      exact absurd (Nat.lt_of_succ_lt (Heap.lt_size z)) (Nat.lt_irrefl _)
  refine call_own F.excBase_ValueError (fun X => refsVE_contains X bm hbm) (X _ _ hC) (looks_findIn X T.iC) (fun self => bind_fn X self T.tI) (by show 2 ≤ sizeLine; decide) ?_
  refine nu_init (s := ⟨(hp.push (kdv_tup [v, u])).push (excO C hp.objs.size), g, dr, tk, os⟩) T (X.keeps k) (hlim.keeps k) hget hnx ?_ (hmg.keeps k) hsup (hmb.keeps k) hbb htop fun h' tk' dx ⟨k', ⟨t1, hx⟩, dn, dne, hns⟩ => ?_
  · show A.depth + 1 < recursionLimit
    exact hroom
  · have old : ∀ b o, hp.get? b = some o → h'.get? b = some o := fun b o e => k' b o (Nat.ne_of_lt (Nat.lt_succ_of_lt (Heap.lt_size e))) (k b o e)
    have z : hp.objs.size + 1 + 1 ≤ dx := by
      first
        | (simpa only [Heap.size_push] using dn)
        | exact dn
        | (have q := dn; rw [Heap.size_push, Heap.size_push] at q; exact q)
    exact ⟨rfl, hq h' tk' (hp.objs.size + 1) dx ⟨old, Nat.le_succ _, ⟨_, _, hx, rfl, rfl, rfl, rfl⟩, Nat.le_trans (Nat.le_trans (Nat.le_succ _) (Nat.le_succ _)) z, dne, hns⟩⟩
end
def nuF (v u : V) : List (Str × V) := [(("at" : Str), u), (("word" : Str), v)]
theorem relO_nu {v u : V} {v' u' : Value} (rv : RelV v v') (ru : RelV u u') (f : Str) : RelO (List.lookup f (nuF v u)) (if f = "at" then some u' else if f = "word" then some v' else none) := by
  unfold nuF
  by_cases h1 : f = "at"
  · subst h1
    rw [if_pos rfl, show List.lookup ("at" : Str) [(("at" : Str), u), (("word" : Str), v)] = some u by simp [List.lookup]]
    exact ru
  · rw [if_neg h1]
    have e1 : (f == ("at" : Str)) = false := by simpa using h1
    by_cases h2 : f = "word"
    · subst h2
      rw [if_pos rfl, show List.lookup ("word" : Str) [(("at" : Str), u), (("word" : Str), v)] = some v by simp [List.lookup, e1]]
      exact rv
    · have e2 : (f == ("word" : Str)) = false := by simpa using h2
      rw [if_neg h2, show List.lookup f [(("at" : Str), u), (("word" : Str), v)] = none by simp [List.lookup, e1, e2]]
      trivial
section
variable {X : Cx} {C fI : Addr}
/-- NotUsable(a, b): its dict is new -/
def tMkNu (C : Addr) (ta : TA) : L2.St → Hp → XK → Prop := fun σ H Q => ta σ H fun vs H1 => ∃ v u, vs = [v, u] ∧ ∀ d, H1 d = none → Q (.ref C) (some d) (upd H1 d (.xd (nuF v u)))
theorem pmk_nu {a b : Expr} {ta : TA} {p pos : Pos} {k : Nat} (T : NuTxt X.K X.prog.main.file C fI) (hr : Room k X.A) (hgC : X.mg "NotUsable" = some (.ref C)) (hsup : X.mg "super" = none) (htop : (X.prog.main.scope.names.lookup ("super" : Str)).isSome = false) (ha : PA X [a, b] ta) (hg : Gl X "NotUsable" := by rfl)
    (he : starEach (a :: [b]) X.env = (false, eval a X.env) :: starEach [b] X.env := by rfl) (hpl : (backTo pos (starEach [b] X.env)).any (·.1) = false := by rfl) :
    PMk X (.Call (.Name "NotUsable" p) [a, b] [] pos) (tMkNu C ta) := by
  intro pins s σ H Q I h
  refine wpAny_Call_Name_kw (ld_glob I hg hgC ?_)
  refine PySem.W.callWith_K (h₀ := X.base) I.ok.mod.kin T.kC (thn (ha.run pos pins s σ H _ I h) fun us s1 hh => ?_) he hpl
  obtain ⟨vs, H1, I1, r1, v, u, ev, q1⟩ := hh
  subst ev
  refine ⟨I1.kIn, ?_⟩
  obtain ⟨v', u', rfl, rv, ru⟩ := vals2 r1
  show wpAny _ _ (call (.ref C) [v', u']) _ _ _
  have hlim := I1.nolimit
  have kb : ∀ b o, X.base.get? b = some o → s1.heap.get? b = some o := fun b o e => (I1.bs b o e).1
  obtain ⟨mb, hmb, hbb⟩ := I1.ok.mod.blt
  have hmg := I1.ok.mod.glob.keeps kb
  have hmb := hmb.keeps kb
  obtain ⟨hp, g, dr, tk, os⟩ := s1
  refine wpAny_call (nu_made T I1.kIn hlim (by have := hr.dp; omega) hmg hsup hmb ((hbb "super" (by decide)).trans (by kernel_rfl)) htop fun h' tk' e d M => ?_)
  show MkP X pins σ Q (.ref e) ⟨h', g, dr, tk', os⟩
  obtain ⟨oe, fv, hoe, hc, hd, hdat, h1⟩ := M.obj
  have hns := M.ns
  obtain ⟨G', g1, g2⟩ := restrict h' fun b => decide (b ≠ e)
  have gk : ∀ b, b ≠ e → G'.get? b = h'.get? b := fun b hb => g1 b (decide_eq_true hb)
  have ge : G'.get? e = none := g2 e (by simp)
  have old : ∀ b o, hp.get? b = some o → G'.get? b = some o := fun b o q => (gk b (Nat.ne_of_lt (Nat.lt_of_lt_of_le (Heap.lt_size q) M.new))).trans (M.keep b o q)
  have ob : ObjOk X.prog X.w (upd H1 d (.xd (nuF v u))) G' d (.xd (nuF v u)) :=
    ⟨_, hns.at (fun o q => (gk d M.dne).trans q), fun f => relO_nu rv ru f⟩
  have J : Inv X pins σ (upd H1 d (.xd (nuF v u))) ⟨G', g, dr, tk', os⟩ := I1.laid (t' := tk') old M.dbig ob
  refine ⟨e, oe, fv, ⟨G', g, dr, tk', os⟩, _, .ref C, some d, rfl, J, fun b o q => ?_, ge, hoe, ⟨hc, hd⟩, hdat, h1, ?_, rfl, I1.bare, raises_own T.ec.hs T.tyC, q1 d (I1.hok.fresh M.dbig)⟩
  · by_cases hb : b = e
    · have q' : G'.get? b = some o := q
      rw [hb, ge] at q'
      cases q'
    · exact (gk b hb).symm.trans q
  · rw [upd_ne (Ne.symm M.dne)]
    exact I1.hok.fresh M.new
/-- e.f, e the exception that the suite holds -/
def tNuF (C : Addr) (f : Str) (a : Addr) (cls : Value) (d : Option Addr) (te : TE) : TE := fun σ H Q => te σ H fun x H1 => x = .ref a ∧ cls = .ref C ∧ ∃ (dd : Addr) (v u y : V), d = some dd ∧ H1 dd = some (.xd (nuF v u)) ∧ List.lookup f (nuF v u) = some y ∧ Q y H1
theorem pe_nuF {a : Addr} {oe : Obj} {cls : Value} {d : Option Addr} {pn : List (Addr × Obj)} {e : Expr} {te : TE} {pos : Pos} {f : Str} (T : NuTxt X.K X.prog.main.file C fI) (hno : PySem.W.findIn X.K (.ref C) f = some none) (hz : Zc cls d oe) (hf : ∃ vs, oe.data = .fields vs) (he : PE (X.suite a ((a, oe) :: pn)) e te)
    (hb : attributeBase e f X.env (eval e X.env) = eval e X.env := by rfl) :
    PE (X.suite a ((a, oe) :: pn)) (.Attribute e f pos) (tNuF C f a cls d te) := by
  refine ⟨fun pins s σ H Q I h => ?_⟩
  refine attr_of hb (thn (he.run pins s σ H _ I h) fun u s1 hh => ?_)
  obtain ⟨x, H1, I1, rx, ex, ec, dd, v, u2, y, ed, ea, el, q⟩ := hh
  subst ex
  obtain rfl : u = Value.ref a := rx
  subst ec
  subst ed
  obtain ⟨ha, _⟩ := I1.pin (a, oe) (List.mem_append_left _ List.mem_cons_self)
  obtain ⟨vs, hd⟩ := hf
  have hx : ObjOk X.prog X.w H1 s1.heap dd (.xd (nuF v u2)) := I1.hok dd _ ea
  obtain ⟨mA, hns, hr⟩ := hx
  obtain ⟨od, ho, hl⟩ := lookIn_ns hns
  obtain ⟨z, hu, ru⟩ := RelO.some_of (v := y) (o := mA f) (by rw [← el]; exact hr f)
  have J : PySem.W.InstAt s1.heap a oe C (some od) := ⟨ha, hz.1, by unfold PySem.W.notCls; rw [hd] <;> rfl, by rw [hz.2]; exact ho⟩
  exact HandSPX.exc_get I1.kIn J T.ec.hg T.ec.hk T.ec.hs (PySem.W.findObj_own T.ec.hd hno rfl (by rw [hl, hu])) (handed_of ru) ⟨y, H1, I1.tok _, ru, q⟩
end
end RM
namespace RM
open PySem PySem.Spec PyProof.Rows L2
/-! ### list.count of bools -/
theorem gives_bool (a b : Bool) : MeetsSeq.EqGives (.bool a) (.bool b) (a == b) := by
  intro prog w A E s Q h
  unfold eqBool
  refine wpAny_holding (wpAny_ite_split (fun e => ?_) (fun e => ?_))
  · have e : a = b := by
      have := eq_of_beq e
      injection this
    rw [e, beq_self_eq_true] at h
    exact wpAny_bind (wpAny_rule (wpAny_pure h))
  · exact wpAny_bind (PyProof.Rows.eq_bool (wpAny_truthy_bool h))
def isB (b : Bool) : Value → Bool
  | .bool a => a == b
  | _ => false
theorem count_vals : ∀ (ks : List Bool) (us : List Value), Vals (ks.map V.bl) us → (∀ b, us.countP (isB b) = ks.count b) ∧ ∀ y ∈ us, ∃ a, y = .bool a
  | [], _, .nil => ⟨fun _ => rfl, fun y hy => absurd hy (by simp)⟩
  | k :: ks, _, .cons r t => by
    obtain ⟨h1, h2⟩ := count_vals ks _ t
    rename_i u us
    obtain rfl : u = Value.bool k := r
    refine ⟨fun b => ?_, fun y hy => ?_⟩
    · rw [List.countP_cons, h1 b, List.count_cons]
      rfl
    · rcases List.mem_cons.mp hy with e | e
      · exact ⟨k, e⟩
      · exact h2 y e
section
variable {X : Cx}
def rCntB (K : PySem.W.Frag) : V → List V → Hp → VK → Prop := fun x xs H Q => ∃ (p : Addr) (ks : List Bool) (b : Bool), x = .ref p ∧ xs = [.bl b] ∧ SqL K H p (ks.map V.bl) ∧ Q (.int (ks.count b : Nat)) H
theorem mt_bcount : MtR X "list.count" (rCntB X.K) := by
  intro pins s σ H x xs v us Q I rx rxs h
  obtain ⟨p, ks, b, rfl, rfl, hs, q⟩ := h
  cases rx
  obtain ⟨u, rfl, ru⟩ := rxs.one
  obtain rfl : u = Value.bool b := ru
  obtain ⟨its, rv, ⟨⟨cls, dd, data, sl⟩, n, ho, hc, hdn, hd⟩, hlen⟩ := I.list hs
  simp only at hc hd
  subst hc hd
  obtain ⟨c1, c2⟩ := count_vals ks its rv
  refine call_meets PySem.F.slot_list_count ⟨_, ho, rfl⟩ PySem.F.entry_list_count (PySem.F.args_list_count_2 _ _)
    (SeqAt.list_countAt p its.toArray n dd sl (.bool b) (isB b)) ⟨ho, fun y hy => ?_, ?_⟩
  · obtain ⟨a, rfl⟩ := c2 y (by simpa using hy)
    exact (gives_bool a b).at _ _
  · refine ⟨.int (ks.count b : Nat), H, I.tok _, ⟨s.toks, ?_⟩, q⟩
    show Value.int ((its.toArray.toList.countP (isB b) : Nat) : Int) s.toks = Value.int ((ks.count b : Nat) : Int) s.toks
    rw [show its.toArray.toList = its from rfl, c1]
end
end RM
namespace RM
open PySem PySem.Spec PyProof.Rows L2
section
variable {P : Program} {w : World} {K : PySem.W.Frag} {mg : Str → Option Value} {base : Heap}
def spDivisor : Sp := fun vs H Q _ => ∃ a b : Nat, vs = [.int a, .int b] ∧ Q (.int (Nat.gcd a b)) H
def spCommon (K : PySem.W.Frag) : Sp := fun vs H Q _ => ∃ (a : Addr) (ns : List Int), vs = [.ref a] ∧ SqT K H a (ns.map V.int) ∧ Q (.int (gcdAll ns)) H
/-- entries below 10 ** 30 or so -/
def Fits (ns : List Int) : Prop := ∀ n ∈ ns, n.natAbs < 2 ^ 200
def spDot (K : PySem.W.Frag) : Sp := fun vs H Q _ => ∃ (a b : Addr) (ns ms : List Int), vs = [.ref a, .ref b] ∧ SqT K H a (ns.map V.int) ∧ SqT K H b (ms.map V.int) ∧ ns.length = ms.length ∧ ns.length ≤ 1000 ∧ Fits ns ∧ Fits ms ∧
  ∀ H', Same H H' → Q (.int (dotL ns ms)) H'
theorem cal_divisor_of (T : Txt mg) (D : Def K mg "divisor_of" s_divisor_of)  : Cal CX0 P w K mg base "divisor_of" ["one", "other"] 2 (spDivisor) := by
  refine Cal.make D sc_divisor_of (fun _ _ _ _ _ _ us hl => match us, hl with | [_, _], _ => rfl) (fun vs H Q E h => ?_) (fun f cdv A outer s H vs Q E hr h => ?_)
  · obtain ⟨a, b, rfl, _⟩ := h
    rfl
  refine ⟨_, PSs.nox (pss_cons (ps_while PassesOwn.never (pt_cmpR op_ne (pv 1) pe_int (nomark _))
      (pss_one (ps_par (i := 0) (j := 1) (by rfl) sc_divisor_of.nd rfl rfl (by decide) rfl rfl (pa_cons (pv 1) (pa_cons (pe_op op_mod (pv 0) (pv 1)) pa_nil)) (by rfl))))
    (pss_one (ps_ret (pv 0)))), ?_⟩
  obtain ⟨a, b, rfl, hq⟩ := h
  refine ⟨fun m σ H' => ∃ a' : Nat, σ = [some (.int a'), some (.int m)] ∧ H' = H ∧ Nat.gcd a' m = Nat.gcd a b, ⟨b, a, rfl, rfl, rfl⟩, ?_⟩
  rintro m σ H' ⟨a', rfl, rfl, hg⟩
  refine ⟨_, rfl, rfl, _, rfl, ?_⟩
  by_cases hm : m = 0
  · subst hm
    refine iteF ?_
    refine ⟨_, rfl, ?_⟩
    rw [Nat.gcd_zero_right] at hg
    rw [hg]
    exact hq
  · have h0 : (0 : Int) < (m : Int) := by omega
    refine ifT (neI (by omega)) ?_
    refine ⟨fun σ' H'' => σ' = [some (.int m), some (.int ((a' % m : Nat) : Int))] ∧ H'' = H', fun σ' H'' z => ⟨a' % m, Nat.mod_lt _ (by omega), m, z.1, z.2, gcd_step hg⟩, ?_⟩
    refine ⟨_, rfl, _, rfl, _, rfl, _, _, rfl, rfl, h0, _, _, rfl, ?_, rfl⟩
    rw [Int.natCast_emod]
    rfl

theorem cal_common_divisor (T : Txt mg) (D : Def K mg "common_divisor" s_common_divisor) (c_divisor_of : Cal CX0 P w K mg base "divisor_of" ["one", "other"] 2 (spDivisor)) : Cal CX0 P w K mg base "common_divisor" ["numbers"] 4 (spCommon K) := by
  obtain ⟨f_divisor_of, fd_divisor_of, m_divisor_of, k_divisor_of, b_divisor_of, G_divisor_of⟩ := c_divisor_of
  refine Cal.make D sc_common_divisor (fun _ _ _ _ _ _ us hl => match us, hl with | [_], _ => rfl) (fun vs H Q E h => ?_) (fun f cdv A outer s H vs Q E hr h => ?_)
  · obtain ⟨a, ns, rfl, _⟩ := h
    rfl
  refine ⟨_, PSs.nox (pss_cons (ps_set (i := 1) sc_common_divisor.nd rfl (Or.inl rfl) pe_int)
    (pss_cons (ps_for PassesOwn.never rfl (pi_tup (pv 0)) (pg_name (i := 2) sc_common_divisor.nd rfl (Or.inl rfl))
      (pss_one (ps_set (i := 1) sc_common_divisor.nd rfl (Or.inl rfl) (pe_call G_divisor_of (hr.mono (by decide)) rfl m_divisor_of k_divisor_of b_divisor_of .nil pass0 (pa_cons (pv 1) (pa_cons (pe_callB call_abs (by rfl) T.abs (by decide +kernel) (pa_cons (pv 2) pa_nil)) pa_nil))))))
    (pss_one (ps_ret (pv 1))))), ?_⟩
  obtain ⟨a, ns, rfl, hS, hq⟩ := h
  refine ⟨_, rfl, a, rfl, ⟨_, hS⟩, for_tup (K := K) (a := a) (xs := ns.map V.int) (fun i σ H' => ∃ y : Option V, σ = [some (.ref a), some (.int (gcdAll (ns.take i))), y] ∧ H' = H) ⟨none, rfl, rfl⟩ (fun i σ H' _ z => ?_) ?_ ?_⟩
  · obtain ⟨_, _, rfl⟩ := z
    exact hS
  · rintro i y σ H' hi ⟨y0, rfl, rfl⟩
    obtain ⟨z, hz, rfl⟩ := get_int hi
    refine ⟨_, rfl, _, rfl, _, rfl, gcdAll (ns.take i), z.natAbs, ?_, ?_⟩
    · show [V.int (gcdAll (ns.take i)), V.int (if z < 0 then -z else z)] = _
      rw [show (if z < 0 then -z else z) = (z.natAbs : Int) by split <;> omega]
    · refine ⟨some (.int z), ?_, rfl⟩
      rw [take_next hz, gcdAll_snoc]
      rfl
  · rintro σ H' ⟨y, rfl, rfl⟩
    rw [List.length_map, List.take_length]
    exact ⟨_, rfl, hq⟩

end
end RM
namespace RM
open PySem PySem.Spec PyProof.Rows L2
/-- a ray: not all 0, the first that is not 0 above 0, without a common divisor -/
structure RayOk (ns : List Int) : Prop where
  first : ∃ z r, ns.filter (fun n => n != 0) = z :: r ∧ 0 < z
  gcd : gcdAll ns = 1
/-- the length -/
def lenN (ns : List Int) : Nat := (dotL ns ns).toNat
def spIsInt : Sp := fun vs H Q _ => ∃ i : Int, vs = [.int i] ∧ Q (.bl true) H
def spAreInts (K : PySem.W.Frag) : Sp := fun vs H Q _ => ∃ (a : Addr) (ns : List Int), vs = [.ref a] ∧ SqT K H a (ns.map V.int) ∧ ns.length ≤ 1000 ∧ ∀ H', Same H H' → Q (.bl true) H'
def spIsRay (K : PySem.W.Frag) : Sp := fun vs H Q _ => ∃ (a : Addr) (ns : List Int), vs = [.ref a] ∧ SqT K H a (ns.map V.int) ∧ ns.length ≤ 1000 ∧ RayOk ns ∧ ∀ H', Same H H' → Q (.bl true) H'
def spIsRayOf (K : PySem.W.Frag) : Sp := fun vs H Q _ => ∃ (a : Addr) (ns : List Int), vs = [.int ns.length, .ref a] ∧ SqT K H a (ns.map V.int) ∧ ns.length ≤ 1000 ∧ RayOk ns ∧ ∀ H', Same H H' → Q (.bl true) H'
def spAsc (K : PySem.W.Frag) : Sp := fun vs H Q _ => ∃ (a : Addr) (ns : List Int), vs = [.ref a] ∧ SqT K H a (ns.map V.int) ∧ ns.length ≤ 5000 ∧ ns.Pairwise (· < ·) ∧ ∀ H', Same H H' → Q (.bl true) H'
def spClassSize : Sp := fun vs H Q _ => ∃ i : Int, vs = [.int i] ∧ 3 ≤ i ∧ i ≤ 5 ∧ Q (.bl true) H
def spIsPrime : Sp := fun vs H Q _ => ∃ p : Nat, vs = [.int p] ∧ Pr p ∧ p < 1000000 ∧ ∀ H', Same H H' → Q (.bl true) H'
/-- a set of primes below a million -/
structure PrimesOk (b : List Nat) : Prop where
  pr : ∀ p ∈ b, Pr p ∧ p < 1000000
  asc : b.Pairwise (· < ·)
  len : b.length ≤ 5000
def zs (b : List Nat) : List Int := b.map fun (p : Nat) => (p : Int)
def spPrimes (K : PySem.W.Frag) : Sp := fun vs H Q _ => ∃ (a : Addr) (b : List Nat), vs = [.ref a] ∧ SqT K H a ((zs b).map V.int) ∧ PrimesOk b ∧ ∀ H', Same H H' → Q (.bl true) H'
def spLength (K : PySem.W.Frag) : Sp := fun vs H Q _ => ∃ (a : Addr) (ns : List Int), vs = [.ref a] ∧ SqT K H a (ns.map V.int) ∧ ns.length ≤ 1000 ∧ Fits ns ∧ ∀ H', Same H H' → Q (.int (dotL ns ns)) H'
def spWithin (K : PySem.W.Frag) : Sp := fun vs H Q _ => ∃ (b a : Addr) (ps : List Nat) (ns : List Int) (n : Nat), vs = [.ref b, .ref a] ∧ SqT K H b ((zs ps).map V.int) ∧ (∀ p ∈ ps, 2 ≤ p ∧ p < 1000000) ∧ SqT K H a (ns.map V.int) ∧ ns.length ≤ 1000 ∧ Fits ns ∧ dotL ns ns = n ∧ 1 ≤ n ∧
  ∀ H', Same H H' → Q (.bl (within ps n)) H'
/-- the prime divisors of a number below 10 ** 12 -/
def spPrimesBy (K : PySem.W.Frag) : Sp := fun vs H Q _ => ∃ n : Nat, vs = [.int n] ∧ 1 ≤ n ∧ n < 1000000 ∧ ∀ (l : List Nat) (p : Addr) (H' : Hp), PD n l → l.length ≤ 2000 → Same H H' → H' p = some (.tup ((zs l).map V.int)) → Q (.ref p) H'
section
variable {P : Program} {w : World} {K : PySem.W.Frag} {mg : Str → Option Value} {base : Heap}
theorem cal_dot_by (T : Txt mg) (D : Def K mg "dot_by" s_dot_by)  : Cal CX0 P w K mg base "dot_by" ["one", "other"] 2 (spDot K) := by
  refine Cal.make D sc_dot_by (fun _ _ _ _ _ _ us hl => match us, hl with | [_, _], _ => rfl) (fun vs H Q E h => ?_) (fun f cdv A outer s H vs Q E hr h => ?_)
  · obtain ⟨a, b, ns, ms, rfl, _⟩ := h
    rfl
  refine ⟨_, PSs.nox (pss_one (ps_ret (pe_callB (cr_sum rfl) (by rfl) T.sum (by decide +kernel) (pa_cons (pe_lc (own := [("here", 2), ("there", 3)]) (g := (gTup K 2 (gCons (gName 2) (gCons (gName 3) gNil)))) rfl sc_dot_by.nd (RZ.pi_zipA (by rfl) T.zip (pa_cons (pv 0) (pa_cons (pv 1) pa_nil))) (blkOk_by (N := n_dot_by) (sc := defScope s_dot_by) (by decide +kernel)) (by exact (fun _ _ _ _ _ => (pg_tup rfl (pgs_cons (pg_name (i := 2) sc_dot_by.nd rfl (Or.inl rfl)) (pgs_cons (pg_name (i := 3) sc_dot_by.nd rfl (Or.inl rfl)) pgs_nil))))) (fun _ _ _ _ _ => pts_nil) (fun _ _ _ _ _ => (pe_op op_mulW (pv 2) (pv 3)))) pa_nil)))), ?_⟩
  obtain ⟨a, b, ns, ms, rfl, hA, hB, hl, hn, fa, fb, hq⟩ := h
  refine ⟨_, rfl, _, rfl, a, b, ns.map V.int, ms.map V.int, rfl, .inr ⟨hA, hB, ?_⟩⟩
  intro D hD
  refine lc_it (walk_zipT (K := K) (a := a) (b := b) (n := ns.length) (by rw [List.length_map, List.length_map]; omega)) (LcP H D fun i => ((prods ns ms).take i).map V.int) (LcP.start hD rfl) (fun i H1 _ p => ⟨same_t p.1 hA, same_t p.1 hB⟩) ?_ ?_
  · rintro i v H1 H2 hi p ⟨T1, x, y, rfl, nT, rfl, hx, hy⟩
    obtain ⟨x, h1x, rfl⟩ := get_int hx
    obtain ⟨y, h1y, rfl⟩ := get_int hy
    refine ⟨T1, _, rfl, tup_at, rfl, _, _, rfl, _, _, rfl, rfl, rfl, ?_⟩
    refine ⟨_, rfl, _, rfl, x, y, rfl, rfl, wide_mul (fa x (List.mem_of_getElem? h1x)) (fb y (List.mem_of_getElem? h1y)) (by decide) (by decide) (by decide), ?_⟩
    exact p.yes hD (same_new nT) (map_take_next (prods_get h1x h1y)) (Nat.lt_of_le_of_lt (map_take_len _ _ _) (by rw [prods_len]; omega))
  · intro H1 p
    refine ⟨D, prods ns ms, rfl, ?_, ?_⟩
    · exact .of (p.at_ (congrArg (List.map V.int) (List.take_of_length_le (by rw [prods_len]; omega))))
    · rw [prods_sum]
      exact hq H1 p.1

theorem cal_is_integer (T : Txt mg) (D : Def K mg "is_integer" s_is_integer)  : Cal CX0 P w K mg base "is_integer" ["thing"] 2 (spIsInt) := by
  refine Cal.make D sc_is_integer (fun _ _ _ _ _ _ us hl => match us, hl with | [_], _ => rfl) (fun vs H Q E h => ?_) (fun f cdv A outer s H vs Q E hr h => ?_)
  · obtain ⟨i, rfl, _⟩ := h
    rfl
  refine ⟨_, PSs.nox (pss_one (ps_ret (pe_and (pe_callB call_isi (by rfl) T.isinstance (by decide +kernel) (pa_cons (pv 0) (pa_cons (pe_bltn (v := .ty "int") (by rfl) T.int (by decide +kernel) rfl) pa_nil))) (pe_one (pe_not (pe_callB call_isi (by rfl) T.isinstance (by decide +kernel) (pa_cons (pv 0) (pa_cons (pe_bltn (v := .ty "bool") (by rfl) T.bool (by decide +kernel) rfl) pa_nil)))))))), ?_⟩
  obtain ⟨i, rfl, hq⟩ := h
  refine ⟨_, rfl, _, _, _, _, _, rfl, .ty "int", .base (.int i), kit_int, true, rfl, iteT ?_⟩
  exact ⟨_, rfl, _, _, _, _, _, rfl, .ty "bool", .base (.int i), kit_int_bool, false, rfl, hq⟩

theorem cal_are_integers (T : Txt mg) (D : Def K mg "are_integers" s_are_integers) (c_is_integer : Cal CX0 P w K mg base "is_integer" ["thing"] 2 (spIsInt)) : Cal CX0 P w K mg base "are_integers" ["thing"] 4 (spAreInts K) := by
  obtain ⟨f_is_integer, fd_is_integer, m_is_integer, k_is_integer, b_is_integer, G_is_integer⟩ := c_is_integer
  refine Cal.make D sc_are_integers (fun _ _ _ _ _ _ us hl => match us, hl with | [_], _ => rfl) (fun vs H Q E h => ?_) (fun f cdv A outer s H vs Q E hr h => ?_)
  · obtain ⟨a, ns, rfl, _⟩ := h
    rfl
  refine ⟨_, PSs.nox (pss_one (ps_ret (pe_and (pe_callB call_isi (by rfl) T.isinstance (by decide +kernel) (pa_cons (pv 0) (pa_cons (pe_bltn (v := .ty "tuple") (by rfl) T.tuple (by decide +kernel) rfl) pa_nil))) (pe_one (pe_callB (cr_all rfl) (by rfl) T.all (by decide +kernel) (pa_cons (pe_lc (own := [("one", 1)]) (g := (gName 1)) rfl sc_are_integers.nd (pi_tup (pv 0)) (blkOk_by (N := n_are_integers) (sc := defScope s_are_integers) (by decide +kernel)) (fun _ _ _ _ _ => (pg_name (i := 1) sc_are_integers.nd rfl (Or.inl rfl))) (fun _ _ _ _ _ => pts_nil) (fun _ _ _ _ _ => (pe_call G_is_integer (hr.mono (by decide)) rfl m_is_integer k_is_integer b_is_integer .nil pass0 (pa_cons (pv 1) pa_nil)))) pa_nil)))))), ?_⟩
  obtain ⟨a, ns, rfl, hA, hn, hq⟩ := h
  refine ⟨_, rfl, _, _, _, _, _, rfl, .ty "tuple", ty_tuple hA, kit_tuple, true, rfl, iteT ?_⟩
  refine ⟨_, rfl, a, rfl, ⟨_, hA⟩, fun D hD => ?_⟩
  refine lc_tup (K := K) (a := a) (xs := ns.map V.int) (LcP H D fun i => (ns.take i).map fun _ => V.bl true) (LcP.start hD rfl) (fun i H1 _ p => same_t p.1 hA) ?_ ?_
  · intro i x H1 hi p
    obtain ⟨z, hz, rfl⟩ := get_int hi
    refine ⟨rfl, ?_⟩
    refine ⟨_, rfl, z, rfl, ?_⟩
    exact p.yes hD (Same.refl _) (map_take_next hz) (Nat.lt_of_le_of_lt (map_take_len _ _ _) (by omega))
  · intro H1 p
    refine ⟨D, ns.map fun _ => true, rfl, .of (p.at_ (by rw [List.length_map, List.take_length, List.map_map] <;> rfl)), ?_⟩
    rw [show (ns.map fun _ => true).all id = true by simp]
    exact hq H1 p.1

theorem cal_is_ray (T : Txt mg) (D : Def K mg "is_ray" s_is_ray) (c_are_integers : Cal CX0 P w K mg base "are_integers" ["thing"] 4 (spAreInts K)) (c_common_divisor : Cal CX0 P w K mg base "common_divisor" ["numbers"] 4 (spCommon K)) : Cal CX0 P w K mg base "is_ray" ["thing"] 6 (spIsRay K) := by
  obtain ⟨f_are_integers, fd_are_integers, m_are_integers, k_are_integers, b_are_integers, G_are_integers⟩ := c_are_integers
  obtain ⟨f_common_divisor, fd_common_divisor, m_common_divisor, k_common_divisor, b_common_divisor, G_common_divisor⟩ := c_common_divisor
  refine Cal.make D sc_is_ray (fun _ _ _ _ _ _ us hl => match us, hl with | [_], _ => rfl) (fun vs H Q E h => ?_) (fun f cdv A outer s H vs Q E hr h => ?_)
  · obtain ⟨a, ns, rfl, _⟩ := h
    rfl
  refine ⟨_, PSs.nox (pss_cons (ps_if (pt_not (pt_val (pe_call G_are_integers (hr.mono (by decide)) rfl m_are_integers k_are_integers b_are_integers .nil pass0 (pa_cons (pv 0) pa_nil)))) (pss_one (ps_ret pe_bl)) pss_nil)
    (pss_cons (ps_setLc (i := 1) (own := [("number", 2)]) (g := (gName 2)) (by rfl) sc_is_ray.nd rfl rfl (sw_true rfl rfl rfl (by decide +kernel)) (pi_tup (pv 0)) (blkOk_by (N := n_is_ray) (sc := defScope s_is_ray) (by decide +kernel)) (fun _ _ _ _ _ => (pg_name (i := 2) sc_is_ray.nd rfl (Or.inl rfl))) (fun _ _ _ _ _ => (pts_one (pt_cmpR op_ne (pv 2) pe_int (nomark _)))) (fun _ _ _ _ _ => (pv 2)))
    (pss_one (ps_ret (pe_and (pe_cmpR op_gt (pe_callB call_len_seq (by rfl) T.len PySem.boot_len (pa_cons (pv 1) pa_nil)) pe_int (nomark _)) (pe_and (pe_cmpR op_gt (pe_ix ix_list (pv 1) pe_int (fun _ _ => rfl)) pe_int (nomark _)) (pe_one (pe_cmpR op_eq (pe_call G_common_divisor (hr.mono (by decide)) rfl m_common_divisor k_common_divisor b_common_divisor .nil pass0 (pa_cons (pv 0) pa_nil)) pe_int (nomark _))))))))), ?_⟩
  obtain ⟨a, ns, rfl, hA, hn, hr1, hq⟩ := h
  refine ⟨_, rfl, a, ns, rfl, hA, hn, fun H1 s1 => ⟨true, rfl, iteF ?_⟩⟩
  have hA1 := same_t s1 hA
  obtain ⟨z, r, hz, hz0⟩ := hr1.first
  refine ⟨_, rfl, a, rfl, ⟨_, hA1⟩, fun D hD => ?_⟩
  refine lc_tup (K := K) (a := a) (xs := ns.map V.int) (LcP H1 D fun i => ((ns.take i).filter fun n => n != 0).map V.int) (LcP.start hD rfl) (fun i H2 _ p => same_t p.1 hA1) ?_ ?_
  · intro i x H2 hi p
    obtain ⟨y, hy, rfl⟩ := get_int hi
    refine ⟨rfl, _, rfl, rfl, _, rfl, ?_⟩
    by_cases h0 : y = 0
    · refine ifF (neI0 h0) ?_
      refine p.no (Same.refl _) ?_
      show ((ns.take (i + 1)).filter fun n => n != 0).map V.int = _
      rw [take_next hy, List.filter_append, h0]
      simp
    · refine ifT (neI h0) ⟨_, rfl, ?_⟩
      refine p.yes hD (Same.refl _) ?_ ?_
      · show ((ns.take (i + 1)).filter fun n => n != 0).map V.int = _
        rw [take_next hy, List.filter_append]
        simp [h0]
      · rw [List.length_map]
        have := List.length_filter_le (fun n : Int => n != 0) (ns.take i)
        have := List.length_take_le i ns
        rw [List.length_take] at *
        omega
  · intro H2 p
    have e : H2 D = some (.lst ((z :: r).map V.int)) := p.at_ (by
      show ((ns.take (ns.map V.int).length).filter fun n => n != 0).map V.int = _
      rw [List.length_map, List.take_length, hz])
    refine ⟨_, rfl, D, _, rfl, .inl (.of e), _, _, rfl, rfl, true, ?_, iteT ?_⟩
    · show V.bl (decide ((0 : Int) < (((z :: r).map V.int).length : Nat))) = V.bl true
      rw [decide_eq_true (by simp)]
    refine ⟨_, rfl, D, _, 0, _, rfl, rfl, .of e, atI_nat (j := 0) rfl, _, _, rfl, rfl, true, ?_, iteT ?_⟩
    · show V.bl (decide ((0 : Int) < z)) = V.bl true
      rw [decide_eq_true hz0]
    refine ⟨_, rfl, a, ns, rfl, same_t p.1 hA1, rfl, ?_⟩
    rw [hr1.gcd]
    exact hq H2 (s1.trans p.1)

theorem cal_is_ray_of (T : Txt mg) (D : Def K mg "is_ray_of" s_is_ray_of) (c_is_ray : Cal CX0 P w K mg base "is_ray" ["thing"] 6 (spIsRay K)) : Cal CX0 P w K mg base "is_ray_of" ["size", "thing"] 8 (spIsRayOf K) := by
  obtain ⟨f_is_ray, fd_is_ray, m_is_ray, k_is_ray, b_is_ray, G_is_ray⟩ := c_is_ray
  refine Cal.make D sc_is_ray_of (fun _ _ _ _ _ _ us hl => match us, hl with | [_, _], _ => rfl) (fun vs H Q E h => ?_) (fun f cdv A outer s H vs Q E hr h => ?_)
  · obtain ⟨a, ns, rfl, _⟩ := h
    rfl
  refine ⟨_, PSs.nox (pss_one (ps_ret (pe_and (pe_call G_is_ray (hr.mono (by decide)) rfl m_is_ray k_is_ray b_is_ray .nil pass0 (pa_cons (pv 1) pa_nil)) (pe_one (pe_cmpR op_eq (pe_callB call_len_seq (by rfl) T.len PySem.boot_len (pa_cons (pv 1) pa_nil)) (pv 0) (nomark _)))))), ?_⟩
  obtain ⟨a, ns, rfl, hA, hn, hr1, hq⟩ := h
  refine ⟨_, rfl, a, ns, rfl, hA, hn, hr1, fun H1 s1 => ⟨true, rfl, iteT ?_⟩⟩
  refine ⟨_, rfl, a, _, rfl, .inr (same_t s1 hA), _, rfl, rfl, ?_⟩
  rw [List.length_map, eqI rfl]
  exact hq H1 s1

end
end RM
namespace RM
open PySem PySem.Spec PyProof.Rows L2
theorem zs_len (b : List Nat) : (zs b).length = b.length := List.length_map ..
theorem get_zs {b : List Nat} {i : Nat} {y : V} (h : ((zs b).map V.int)[i]? = some y) : ∃ p : Nat, b[i]? = some p ∧ y = V.int p := by
  obtain ⟨z, hz, rfl⟩ := get_int h
  unfold zs at hz
  rw [List.getElem?_map] at hz
  cases e : b[i]? with
  | none =>
    rw [e] at hz
    cases hz
  | some p =>
    rw [e] at hz
    exact ⟨p, rfl, by rw [← Option.some.inj hz]⟩
theorem zs_app (b : List Nat) (p : Nat) : zs (b ++ [p]) = zs b ++ [(p : Int)] := by
  unfold zs
  rw [List.map_append]
  rfl
theorem fold_next {b : List Nat} {i p n : Nat} (h : b[i]? = some p) : (b.take (i + 1)).foldl strip n = strip ((b.take i).foldl strip n) p := by
  rw [take_next h, List.foldl_append]
  rfl
theorem strip_pos {r p : Nat} (hp : 2 ≤ p) (hr : 1 ≤ r) : 1 ≤ strip r p := by
  induction r using Nat.strongRecOn with
  | _ r ih =>
    by_cases h : r % p = 0
    · rw [strip_yes hp hr h]
      exact ih (r / p) (Nat.div_lt_self (by omega) (by omega)) (Nat.div_pos (Nat.le_of_dvd (by omega) (Nat.dvd_of_mod_eq_zero h)) (by omega))
    · rw [strip_no hr h]
      exact hr
theorem fold_pos : ∀ (b : List Nat) (n : Nat), (∀ p ∈ b, 2 ≤ p) → 1 ≤ n → 1 ≤ b.foldl strip n
  | [], _, _, h => h
  | p :: b, n, hp, h => fold_pos b _ (fun q hq => hp q (List.mem_cons_of_mem _ hq)) (strip_pos (hp p List.mem_cons_self) h)
section
variable {P : Program} {w : World} {K : PySem.W.Frag} {mg : Str → Option Value} {base : Heap}
theorem cal_are_ascending (T : Txt mg) (D : Def K mg "are_ascending" s_are_ascending)  : Cal CX0 P w K mg base "are_ascending" ["things"] 2 (spAsc K) := by
  refine Cal.make D sc_are_ascending (fun _ _ _ _ _ _ us hl => match us, hl with | [_], _ => rfl) (fun vs H Q E h => ?_) (fun f cdv A outer s H vs Q E hr h => ?_)
  · obtain ⟨a, ns, rfl, _⟩ := h
    rfl
  refine ⟨_, PSs.nox (pss_one (ps_ret (pe_callB (cr_all rfl) (by rfl) T.all (by decide +kernel) (pa_cons (pe_lc (own := [("one", 1), ("other", 2)]) (g := (gTup K 2 (gCons (gName 1) (gCons (gName 2) gNil)))) rfl sc_are_ascending.nd (RZ.pi_zipA (by rfl) T.zip (pa_cons (pv 0) (pa_cons (pe_slice sl_tupB (pv 0) (po_some pe_int) po_none) pa_nil))) (blkOk_by (N := n_are_ascending) (sc := defScope s_are_ascending) (by decide +kernel)) (by exact (fun _ _ _ _ _ => (pg_tup rfl (pgs_cons (pg_name (i := 1) sc_are_ascending.nd rfl (Or.inl rfl)) (pgs_cons (pg_name (i := 2) sc_are_ascending.nd rfl (Or.inl rfl)) pgs_nil))))) (fun _ _ _ _ _ => pts_nil) (fun _ _ _ _ _ => (pe_cmpR op_lt (pv 1) (pv 2) (nomark _)))) pa_nil)))), ?_⟩
  obtain ⟨a, ns, rfl, hA, hn, hs, hq⟩ := h
  refine ⟨_, rfl, _, rfl, 1, rfl, a, _, rfl, hA, fun p H1 s1 hB => ?_⟩
  rw [cut_tail, ← List.map_drop] at hB
  have hA1 := same_t s1 hA
  refine ⟨a, p, ns.map V.int, (ns.drop 1).map V.int, rfl, .inr ⟨hA1, hB, ?_⟩⟩
  intro D hD
  refine lc_it (walk_zipT (K := K) (a := a) (b := p) (n := ns.length - 1) (by rw [List.length_map, List.length_map, List.length_drop]; omega)) (LcP H1 D fun i => (ns.take i).map fun _ => V.bl true) (LcP.start hD rfl) (fun i H2 _ p => ⟨same_t p.1 hA1, same_t p.1 hB⟩) ?_ ?_
  · rintro i v H2 H3 hi p ⟨T1, x, y, rfl, nT, rfl, hx, hy⟩
    obtain ⟨x, h1x, rfl⟩ := get_int hx
    obtain ⟨y, h1y, rfl⟩ := get_int hy
    have hlt : x < y := by
      rw [List.getElem?_drop] at h1y
      obtain ⟨l1, e1⟩ := List.getElem?_eq_some_iff.mp h1x
      obtain ⟨l2, e2⟩ := List.getElem?_eq_some_iff.mp h1y
      rw [← e1, ← e2]
      exact List.pairwise_iff_getElem.mp hs _ _ _ _ (by omega)
    refine ⟨T1, _, rfl, tup_at, rfl, _, _, rfl, _, _, rfl, rfl, rfl, ?_⟩
    refine ⟨_, rfl, _, rfl, x, y, rfl, rfl, ?_⟩
    exact p.yes hD (same_new nT) (by
      show _ = _ ++ [V.bl (decide (x < y))]
      rw [decide_eq_true hlt]
      exact map_take_next h1x) (Nat.lt_of_le_of_lt (map_take_len _ _ _) (by omega))
  · intro H2 p
    refine ⟨D, (ns.take (ns.length - 1)).map fun _ => true, rfl, .of (p.at_ (by rw [List.map_map] <;> rfl)), ?_⟩
    rw [all_tt]
    exact hq H2 (s1.trans p.1)

theorem cal_is_class_size (T : Txt mg) (D : Def K mg "is_class_size" s_is_class_size) (c_is_integer : Cal CX0 P w K mg base "is_integer" ["thing"] 2 (spIsInt)) : Cal CX0 P w K mg base "is_class_size" ["thing"] 4 (spClassSize) := by
  obtain ⟨f_is_integer, fd_is_integer, m_is_integer, k_is_integer, b_is_integer, G_is_integer⟩ := c_is_integer
  obtain ⟨t_leastC, hleastC⟩ := T.leastC
  obtain ⟨t_mostC, hmostC⟩ := T.mostC
  refine Cal.make D sc_is_class_size (fun _ _ _ _ _ _ us hl => match us, hl with | [_], _ => rfl) (fun vs H Q E h => ?_) (fun f cdv A outer s H vs Q E hr h => ?_)
  · obtain ⟨i, rfl, _⟩ := h
    rfl
  refine ⟨_, PSs.nox (pss_one (ps_ret (pe_and (pe_call G_is_integer (hr.mono (by decide)) rfl m_is_integer k_is_integer b_is_integer .nil pass0 (pa_cons (pv 0) pa_nil)) (pe_one (pe_chain op_le op_le (pe_glob (v := .int 3) rfl hleastC ⟨_, rfl⟩) (pv 0) (pe_glob (v := .int 5) rfl hmostC ⟨_, rfl⟩)))))), ?_⟩
  obtain ⟨i, rfl, h3, h5, hq⟩ := h
  refine ⟨_, rfl, i, rfl, true, rfl, iteT ?_⟩
  refine ⟨_, rfl, _, _, rfl, rfl, true, blT h3, iteT ?_⟩
  refine ⟨_, _, rfl, rfl, ?_⟩
  exact rtT (Q := Q) h5 hq

theorem cal_is_prime (T : Txt mg) (D : Def K mg "is_prime" s_is_prime) (c_is_integer : Cal CX0 P w K mg base "is_integer" ["thing"] 2 (spIsInt)) : Cal CX0 P w K mg base "is_prime" ["thing"] 4 (spIsPrime) := by
  obtain ⟨f_is_integer, fd_is_integer, m_is_integer, k_is_integer, b_is_integer, G_is_integer⟩ := c_is_integer
  obtain ⟨t_topP, htopP⟩ := T.topP
  obtain ⟨t_topR, htopR⟩ := T.topR
  refine Cal.make D sc_is_prime (fun _ _ _ _ _ _ us hl => match us, hl with | [_], _ => rfl) (fun vs H Q E h => ?_) (fun f cdv A outer s H vs Q E hr h => ?_)
  · obtain ⟨p, rfl, _⟩ := h
    rfl
  refine ⟨_, PSs.nox (pss_cons (ps_if (PW.pt (pw_or (pt_not (pt_val (pe_call G_is_integer (hr.mono (by decide)) rfl m_is_integer k_is_integer b_is_integer .nil pass0 (pa_cons (pv 0) pa_nil)))) (pw_or (pt_cmpR op_lt (pv 0) pe_int (nomark _)) (pw_or1 (pt_cmpR op_ge (pv 0) (pe_glob (v := .int 1000000) rfl htopP ⟨_, rfl⟩) (nomark _)))))) (pss_one (ps_ret pe_bl)) pss_nil)
    (pss_one (ps_ret (pe_callB (cr_all rfl) (by rfl) T.all (by decide +kernel) (pa_cons (pe_lc (own := [("part", 1)]) (g := (gName 1)) rfl sc_is_prime.nd (pi_range2 (by rfl) T.range (pa_cons pe_int (pa_cons (pe_glob (v := .int 1000) rfl htopR ⟨_, rfl⟩) pa_nil))) (blkOk_by (N := n_is_prime) (sc := defScope s_is_prime) (by decide +kernel)) (fun _ _ _ _ _ => (pg_name (i := 1) sc_is_prime.nd rfl (Or.inl rfl))) (fun _ _ _ _ _ => (pts_one (pt_cmpR op_le (pe_op op_mul (pv 1) (pv 1)) (pv 0) (nomark _)))) (fun _ _ _ _ _ => (pe_cmpR op_gt (pe_op op_mod (pv 0) (pv 1)) pe_int (nomark _)))) pa_nil))))), ?_⟩
  obtain ⟨p, rfl, pr, hp, hq⟩ := h
  have p2 := pr.two
  refine ⟨_, rfl, p, rfl, true, rfl, iteF ?_⟩
  refine ⟨_, rfl, _, _, rfl, rfl, false, blF (by omega), iteF ?_⟩
  refine ⟨_, rfl, _, _, rfl, rfl, false, blF (by omega), iteF ?_⟩
  refine ⟨2, 1000, rfl, by decide, ?_⟩
  intro D hD
  refine lc_range (lo := 2) (n := 998) (LcE H D fun i ys _ => ∃ bs : List Bool, ys = bs.map V.bl ∧ bs.all id = true ∧ bs.length ≤ i) (LcE.start hD fun _ _ => ⟨[], rfl, rfl, Nat.le_refl _⟩) ?_ ?_
  · rintro i H1 hi ⟨s1, ys, e, bs, rfl, hb, hl⟩
    have e2 : (2 : Int) + (i : Nat) = ((i + 2 : Nat) : Int) := by omega
    refine ⟨rfl, _, rfl, _, rfl, _, _, rfl, rfl, .inl ⟨by omega, by omega⟩, _, rfl, _, _, rfl, rfl, _, rfl, ?_⟩
    refine ite2 (fun hc => ?_) (fun _ => ?_)
    · have hc := of_decide_eq_true hc
      refine ⟨_, rfl, _, rfl, _, _, rfl, rfl, by omega, _, _, rfl, rfl, ?_⟩
      have hnd : ¬ (i + 2) ∣ p := fun z => by
        rcases pr.2 _ z with y | y
        · omega
        · rw [e2, y] at hc
          have : (p : Int) * 2 ≤ p * p := Int.mul_le_mul_of_nonneg_left (by omega) (by omega)
          omega
      have hm : (0 : Int) < (p : Int) % (2 + (i : Nat)) := by
        rw [e2, ← Int.natCast_emod]
        have := not_dvd_mod hnd
        omega
      exact LcE.yes (y := V.bl (decide ((0 : Int) < (p : Int) % (2 + (i : Nat))))) s1 e hD (Same.refl _) (by rw [List.length_map]; omega) ⟨bs ++ [true], by rw [decide_eq_true hm, List.map_append] <;> rfl, by rw [List.all_append, hb] <;> rfl, by rw [List.length_append] <;> exact Nat.succ_le_succ hl⟩
    · exact ⟨s1, _, e, bs, rfl, hb, by omega⟩
  · rintro H1 ⟨s1, ys, e, bs, rfl, hb, hl⟩
    refine ⟨D, bs, rfl, .of e, ?_⟩
    rw [hb]
    exact hq H1 s1

theorem cal_are_primes (T : Txt mg) (D : Def K mg "are_primes" s_are_primes) (c_is_prime : Cal CX0 P w K mg base "is_prime" ["thing"] 4 (spIsPrime)) (c_are_ascending : Cal CX0 P w K mg base "are_ascending" ["things"] 2 (spAsc K)) : Cal CX0 P w K mg base "are_primes" ["thing"] 6 (spPrimes K) := by
  obtain ⟨f_is_prime, fd_is_prime, m_is_prime, k_is_prime, b_is_prime, G_is_prime⟩ := c_is_prime
  obtain ⟨f_are_ascending, fd_are_ascending, m_are_ascending, k_are_ascending, b_are_ascending, G_are_ascending⟩ := c_are_ascending
  refine Cal.make D sc_are_primes (fun _ _ _ _ _ _ us hl => match us, hl with | [_], _ => rfl) (fun vs H Q E h => ?_) (fun f cdv A outer s H vs Q E hr h => ?_)
  · obtain ⟨a, b, rfl, _⟩ := h
    rfl
  refine ⟨_, PSs.nox (pss_one (ps_ret (pe_and (pe_callB call_isi (by rfl) T.isinstance (by decide +kernel) (pa_cons (pv 0) (pa_cons (pe_bltn (v := .ty "tuple") (by rfl) T.tuple (by decide +kernel) rfl) pa_nil))) (pe_and (pe_callB (cr_all rfl) (by rfl) T.all (by decide +kernel) (pa_cons (pe_lc (own := [("one", 1)]) (g := (gName 1)) rfl sc_are_primes.nd (pi_tup (pv 0)) (blkOk_by (N := n_are_primes) (sc := defScope s_are_primes) (by decide +kernel)) (fun _ _ _ _ _ => (pg_name (i := 1) sc_are_primes.nd rfl (Or.inl rfl))) (fun _ _ _ _ _ => pts_nil) (fun _ _ _ _ _ => (pe_call G_is_prime (hr.mono (by decide)) rfl m_is_prime k_is_prime b_is_prime .nil pass0 (pa_cons (pv 1) pa_nil)))) pa_nil)) (pe_one (pe_call G_are_ascending (hr.mono (by decide)) rfl m_are_ascending k_are_ascending b_are_ascending .nil pass0 (pa_cons (pv 0) pa_nil))))))), ?_⟩
  obtain ⟨a, b, rfl, hA, hb, hq⟩ := h
  refine ⟨_, rfl, _, _, _, _, _, rfl, .ty "tuple", ty_tuple hA, kit_tuple, true, rfl, iteT ?_⟩
  refine ⟨_, rfl, a, rfl, ⟨_, hA⟩, fun D hD => ?_⟩
  refine lc_tup (K := K) (a := a) (xs := (zs b).map V.int) (LcP H D fun i => (b.take i).map fun _ => V.bl true) (LcP.start hD rfl) (fun i H1 _ p => same_t p.1 hA) ?_ ?_
  · intro i x H1 hi p
    obtain ⟨z, hz, rfl⟩ := get_zs hi
    have hm := List.mem_of_getElem? hz
    refine ⟨rfl, ?_⟩
    refine ⟨_, rfl, z, rfl, (hb.pr z hm).1, (hb.pr z hm).2, fun H2 s2 => ?_⟩
    exact p.yes hD s2 (map_take_next hz) (Nat.lt_of_le_of_lt (map_take_len _ _ _) (by have := hb.len; omega))
  · intro H1 p
    refine ⟨D, b.map fun _ => true, rfl, .of (p.at_ (by rw [List.length_map, zs_len, List.take_length, List.map_map] <;> rfl)), ?_⟩
    refine ⟨true, congrArg V.bl (all_tt b), iteT ?_⟩
    refine ⟨_, rfl, a, zs b, rfl, same_t p.1 hA, by rw [zs_len]; exact hb.len, ?_, fun H2 s2 => hq H2 (p.1.trans s2)⟩
    unfold zs
    rw [List.pairwise_map]
    exact hb.asc.imp fun h => by omega

theorem cal_length_by (T : Txt mg) (D : Def K mg "length_by" s_length_by) (c_dot_by : Cal CX0 P w K mg base "dot_by" ["one", "other"] 2 (spDot K)) : Cal CX0 P w K mg base "length_by" ["ray"] 4 (spLength K) := by
  obtain ⟨f_dot_by, fd_dot_by, m_dot_by, k_dot_by, b_dot_by, G_dot_by⟩ := c_dot_by
  refine Cal.make D sc_length_by (fun _ _ _ _ _ _ us hl => match us, hl with | [_], _ => rfl) (fun vs H Q E h => ?_) (fun f cdv A outer s H vs Q E hr h => ?_)
  · obtain ⟨a, ns, rfl, _⟩ := h
    rfl
  refine ⟨_, PSs.nox (pss_one (ps_ret (pe_call G_dot_by (hr.mono (by decide)) rfl m_dot_by k_dot_by b_dot_by .nil pass0 (pa_cons (pv 0) (pa_cons (pv 0) pa_nil))))), ?_⟩
  obtain ⟨a, ns, rfl, hA, hn, hf, hq⟩ := h
  exact ⟨_, rfl, _, rfl, a, a, ns, ns, rfl, hA, hA, rfl, hn, hf, hf, fun H1 s1 => hq H1 s1⟩

theorem cal_is_within (T : Txt mg) (D : Def K mg "is_within" s_is_within) (c_length_by : Cal CX0 P w K mg base "length_by" ["ray"] 4 (spLength K)) : Cal CX0 P w K mg base "is_within" ["primes", "ray"] 6 (spWithin K) := by
  obtain ⟨f_length_by, fd_length_by, m_length_by, k_length_by, b_length_by, G_length_by⟩ := c_length_by
  refine Cal.make D sc_is_within (fun _ _ _ _ _ _ us hl => match us, hl with | [_, _], _ => rfl) (fun vs H Q E h => ?_) (fun f cdv A outer s H vs Q E hr h => ?_)
  · obtain ⟨b, a, ps, ns, n, rfl, _⟩ := h
    rfl
  refine ⟨_, PSs.nox (pss_cons (ps_set (i := 2) sc_is_within.nd rfl (Or.inl rfl) (pe_call G_length_by (hr.mono (by decide)) rfl m_length_by k_length_by b_length_by .nil pass0 (pa_cons (pv 1) pa_nil)))
    (pss_cons (ps_for PassesOwn.never rfl (pi_tup (pv 0)) (pg_name (i := 3) sc_is_within.nd rfl (Or.inl rfl))
      (pss_one (ps_while PassesOwn.never (pt_cmpR op_eq (pe_op op_mod (pv 2) (pv 3)) pe_int (nomark _))
      (pss_one (ps_set (i := 2) sc_is_within.nd rfl (Or.inl rfl) (pe_op op_fdivW (pv 2) (pv 3)))))))
    (pss_one (ps_ret (pe_cmpR op_eq (pv 2) pe_int (nomark _)))))), ?_⟩
  obtain ⟨b, a, ps, ns, n, rfl, hB, hp, hA, hn, hf, he, h1, hq⟩ := h
  refine ⟨_, rfl, a, ns, rfl, hA, hn, hf, fun H1 s1 => ?_⟩
  rw [he]
  refine ⟨_, rfl, b, rfl, ⟨_, same_t s1 hB⟩, for_tup (K := K) (a := b) (xs := (zs ps).map V.int) (fun i σ H' => ∃ y : Option V, σ = [some (.ref b), some (.ref a), some (.int ((ps.take i).foldl strip n : Nat)), y] ∧ Same H H') ⟨none, rfl, s1⟩ (fun i σ H' _ z => ?_) ?_ ?_⟩
  · obtain ⟨_, _, z⟩ := z
    exact same_t z hB
  · rintro i y σ H2 hi ⟨y0, rfl, s2⟩
    obtain ⟨p, hz, rfl⟩ := get_zs hi
    have p2 := (hp p (List.mem_of_getElem? hz)).1
    have p9 := (hp p (List.mem_of_getElem? hz)).2
    have f1 : 1 ≤ (ps.take i).foldl strip n := fold_pos _ _ (fun q hq => (hp q (List.mem_of_mem_take hq)).1) h1
    refine ⟨fun m σ' H' => σ' = [some (.ref b), some (.ref a), some (.int m), some (.int p)] ∧ H' = H2 ∧ 1 ≤ m ∧ strip m p = (ps.take (i + 1)).foldl strip n, ⟨_, rfl, rfl, f1, by rw [fold_next hz]⟩, ?_⟩
    rintro m σ' H' ⟨rfl, rfl, m1, hm⟩
    refine ⟨_, rfl, _, rfl, _, _, rfl, rfl, by omega, rfl, _, rfl, ?_⟩
    by_cases hd : m % p = 0
    · refine ifT (eqI (by rw [← Int.natCast_emod, hd] <;> rfl)) ?_
      refine ⟨fun σ'' H'' => σ'' = [some (.ref b), some (.ref a), some (.int (m / p : Nat)), some (.int p)] ∧ H'' = H', fun σ'' H'' z => ⟨m / p, Nat.div_lt_self (by omega) (by omega), z.1, z.2, ?_, ?_⟩, ?_⟩
      · exact Nat.div_pos (Nat.le_of_dvd (by omega) (Nat.dvd_of_mod_eq_zero hd)) (by omega)
      · rw [← strip_yes p2 m1 hd]
        exact hm
      · refine ⟨_, rfl, _, rfl, _, _, rfl, rfl, wide_div (b := 20) (by omega) (by omega) (by decide) (by decide), ?_, rfl⟩
        rw [Int.natCast_ediv]
        rfl
    · refine ifF (eqI0 (by rw [← Int.natCast_emod]; omega)) ?_
      rw [strip_no m1 hd] at hm
      rw [hm]
      exact ⟨some (.int p), rfl, s2⟩
  · rintro σ H2 ⟨y, rfl, s2⟩
    rw [List.length_map, zs_len, List.take_length]
    refine ⟨_, rfl, rfl, ?_⟩
    rw [show decide (V.int ((ps.foldl strip n : Nat) : Int) = V.int 1) = within ps n from ?_]
    · exact hq H2 s2
    · unfold within
      by_cases z : ps.foldl strip n = 1
      · rw [decide_eq_true z, z]
        rfl
      · rw [decide_eq_false z]
        exact eqI0 (by omega)

end
end RM
namespace RM
open PySem PySem.Spec PyProof.Rows L2
theorem td_len {n p rest : Nat} {found : List Nat} (h : TD n p found rest) : found.length ≤ p := asc_length h.asc fun q hq => ((h.mem q).mp hq).2.2
/-- want(True, name, place) -/
def spWantT : Sp := fun vs H Q _ => ∃ x y : V, vs = [.bl true, x, y] ∧ Q .non H
def spWantClass (K : PySem.W.Frag) : Sp := fun vs H Q _ => ∃ (i : Int) (a : Addr) (b : List Nat), vs = [.int i, .ref a] ∧ 3 ≤ i ∧ i ≤ 5 ∧ SqT K H a ((zs b).map V.int) ∧ PrimesOk b ∧ ∀ H', Same H H' → Q .non H'
/-- is_class((size, primes)) -/
def spIsClass (K : PySem.W.Frag) : Sp := fun vs H Q _ => ∃ (c : Addr) (i : Int) (a : Addr) (b : List Nat), vs = [.ref c] ∧ SqT K H c [.int i, .ref a] ∧ 3 ≤ i ∧ i ≤ 5 ∧ SqT K H a ((zs b).map V.int) ∧ PrimesOk b ∧ ∀ H', Same H H' → Q (.bl true) H'
/-- is_in_class(size, primes, ray) -/
def spInClass (K : PySem.W.Frag) : Sp := fun vs H Q _ => ∃ (a r : Addr) (b : List Nat) (ns : List Int), vs = [.int ns.length, .ref a, .ref r] ∧ 3 ≤ ns.length ∧ ns.length ≤ 5 ∧ SqT K H a ((zs b).map V.int) ∧ PrimesOk b ∧ SqT K H r (ns.map V.int) ∧ RayOk ns ∧ Fits ns ∧ 1 ≤ lenN ns ∧
  ∀ H', Same H H' → Q (.bl (within b (lenN ns))) H'
section
variable {P : Program} {w : World} {K : PySem.W.Frag} {mg : Str → Option Value} {base : Heap}
theorem cal_primes_by (T : Txt mg) (D : Def K mg "primes_by" s_primes_by)  : Cal CX0 P w K mg base "primes_by" ["number"] 2 (spPrimesBy K) := by
  refine Cal.make D sc_primes_by (fun _ _ _ _ _ _ us hl => match us, hl with | [_], _ => rfl) (fun vs H Q E h => ?_) (fun f cdv A outer s H vs Q E hr h => ?_)
  · obtain ⟨n, rfl, _⟩ := h
    rfl
  refine ⟨_, PSs.nox (pss_cons (ps_par3 (i := 1) (j := 2) (l := 3) (by rfl) sc_primes_by.nd rfl rfl rfl (by decide) (by decide) (by decide) rfl rfl rfl (pa_cons (pe_lst pa_nil) (pa_cons pe_int (pa_cons (pv 0) pa_nil))) (by rfl))
    (pss_cons (ps_while PassesOwn.never (pt_cmpR op_le (pe_op op_mul (pv 2) (pv 2)) (pv 3) (nomark _))
      (pss_cons (ps_if (pt_cmpR op_eq (pe_op op_mod (pv 3) (pv 2)) pe_int (nomark _)) (pss_cons (ps_expr (pe_bm PySem.F.plainAttrs_list PySem.F.slot_list_append PySem.F.type_list_append mt_append (pv 1) (pa_cons (pv 2) pa_nil)))
    (pss_one (ps_while PassesOwn.never (pt_cmpR op_eq (pe_op op_mod (pv 3) (pv 2)) pe_int (nomark _))
      (pss_one (ps_set (i := 3) sc_primes_by.nd rfl (Or.inl rfl) (pe_op op_fdivW (pv 3) (pv 2))))))) pss_nil)
    (pss_one (ps_aug (i := 2) sc_primes_by.nd rfl (Or.inl rfl) pe_int ip_add))))
    (pss_one (ps_ret (pe_callTy call_tuple_of (by rfl) T.tuple (by decide +kernel) (pa_cons (pe_ifExp (pt_cmpR op_gt (pv 3) pe_int (nomark _)) (pe_lst (StX.pa_star (pv 1) (pa_cons (pv 3) pa_nil))) (pv 1)) pa_nil)))))), ?_⟩
  obtain ⟨n, rfl, n1, n9, hq⟩ := h
  refine ⟨by decide, fun l nl => ?_⟩
  refine ⟨_, rfl, _, _, _, rfl, ?_⟩
  refine ⟨fun m σ H' => ∃ (found : List Nat) (p rest : Nat), σ = [some (.int n), some (.ref l), some (.int p), some (.int rest)] ∧ Same H H' ∧ H' l = some (.lst ((zs found).map V.int)) ∧ 2 ≤ p ∧ TD n p found rest ∧ m + p = n + 3 ∧ p ≤ 1001,
    ⟨n + 1, [], 2, n, rfl, same_new nl, upd_same, by decide, TD.start n1, by omega, by decide⟩, ?_⟩
  rintro m σ H' ⟨found, p, rest, rfl, sm, hl, p2, td, hm, hp⟩
  have rle : rest ≤ n := Nat.le_of_dvd (by omega) td.rn
  have flen := td_len td
  refine ⟨_, rfl, _, rfl, _, _, rfl, rfl, .inl ⟨by omega, by omega⟩, _, rfl, _, _, rfl, rfl, _, rfl, ?_⟩
  refine ite2 (fun hc => ?_) (fun hc => ?_)
  · have hc : ((p : Int) * p ≤ rest) := of_decide_eq_true hc
    have hc' : p * p ≤ rest := by
      have e : ((p * p : Nat) : Int) ≤ (rest : Int) := by rw [Int.natCast_mul]; exact hc
      omega
    have hp9 : p ≤ 1000 := by
      rcases Nat.lt_or_ge 1000 p with z | z
      · have : 1001 * 1001 ≤ p * p := Nat.mul_le_mul (by omega) (by omega)
        omega
      · exact z
    have hpn : p ≤ n := by
      have : p * 1 ≤ p * p := Nat.mul_le_mul_left p (by omega)
      omega
    refine ⟨fun σ' H'' => ∃ (found : List Nat) (rest : Nat), σ' = [some (.int n), some (.ref l), some (.int (p + 1 : Nat)), some (.int rest)] ∧ Same H H'' ∧ H'' l = some (.lst ((zs found).map V.int)) ∧ TD n (p + 1) found rest, ?_, ?_⟩
    · rintro σ' H'' ⟨found', rest', e, sm', hl', td'⟩
      exact ⟨m - 1, by omega, found', p + 1, rest', e, sm', hl', by omega, td', by omega, by omega⟩
    · refine ⟨_, rfl, _, rfl, _, _, rfl, rfl, by omega, rfl, _, rfl, ?_⟩
      by_cases hd : rest % p = 0
      · refine ifT (eqI (by rw [← Int.natCast_emod, hd] <;> rfl)) ?_
        have hdv := Nat.dvd_of_mod_eq_zero hd
        have pp := td.prime p2 hdv
        refine ⟨_, rfl, .inl ⟨rfl, _, .of hl⟩, _, rfl, l, _, _, rfl, rfl, hl, small1000 (by rw [List.length_map, zs_len]; omega), ?_⟩
        have hl2 : ∀ H2, upd H' l (.lst ((zs found).map V.int ++ [.int p])) = H2 → H2 l = some (.lst ((zs (found ++ [p])).map V.int)) := fun H2 e => by
          rw [← e, upd_same, zs_app, List.map_append]
          rfl
        generalize eH : upd H' l (.lst ((zs found).map V.int ++ [.int p])) = H2
        have hl2 := hl2 H2 eH
        have sm2 : Same H H2 := by
          rw [← eH]
          exact same_put sm nl
        refine ⟨fun k σ' H'' => σ' = [some (.int n), some (.ref l), some (.int p), some (.int k)] ∧ H'' = H2 ∧ Out p rest k, ⟨rest, rfl, rfl, Out.start td.r1⟩, ?_⟩
        rintro k σ' H'' ⟨rfl, rfl, ok⟩
        have k1 := ok.r1
        refine ⟨_, rfl, _, rfl, _, _, rfl, rfl, by omega, rfl, _, rfl, ?_⟩
        by_cases hk : k % p = 0
        · refine ifT (eqI (by rw [← Int.natCast_emod, hk] <;> rfl)) ?_
          refine ⟨fun σ'' H3 => σ'' = [some (.int n), some (.ref l), some (.int p), some (.int (k / p : Nat))] ∧ H3 = H'', fun σ'' H3 z => ⟨k / p, Nat.div_lt_self (by omega) (by omega), z.1, z.2, ok.step pp (Nat.dvd_of_mod_eq_zero hk)⟩, ?_⟩
          refine ⟨_, rfl, _, rfl, _, _, rfl, rfl, wide_div (b := 20) (by omega) (by omega) (by decide) (by decide), ?_, rfl⟩
          rw [Int.natCast_ediv]
          rfl
        · refine ifF (eqI0 (by rw [← Int.natCast_emod]; omega)) ?_
          refine ⟨_, rfl, _, _, rfl, rfl, ?_⟩
          refine ⟨found ++ [p], k, ?_, sm2, hl2, td.take p2 hdv ok (fun z => hk (Nat.mod_eq_zero_of_dvd z))⟩
          rw [Int.natCast_add]
          rfl
      · refine ifF (eqI0 (by rw [← Int.natCast_emod]; omega)) ?_
        refine ⟨_, rfl, _, _, rfl, rfl, ?_⟩
        refine ⟨found, rest, ?_, sm, hl, td.skip p2 (fun z => hd (Nat.mod_eq_zero_of_dvd z))⟩
        rw [Int.natCast_add]
        rfl
  · have hc : ¬ ((p : Int) * p ≤ rest) := fun z => hc (decide_eq_true z)
    have hc' : rest < p * p := by
      have e : ((p * p : Nat) : Int) = (p : Int) * p := Int.natCast_mul ..
      omega
    have pd := td.done hc'
    refine ⟨_, rfl, _, _, rfl, rfl, _, rfl, ?_⟩
    by_cases h1 : 1 < rest
    · rw [if_pos h1] at pd
      refine ifT (decide_eq_true (by omega)) ?_
      refine ⟨_, rfl, l, _, rfl, .inr (.of hl), _, rfl, ?_, fun q nq => ?_⟩
      · rw [List.length_append, List.length_map, zs_len]
        exact Nat.le_trans (show _ ≤ 3000 from Nat.le_trans (Nat.add_le_add_right flen _) (by show p + 1 ≤ 3000; omega)) (by decide)
      · refine ⟨q, _, rfl, .inl ⟨lst_at, fun t nt => ?_⟩⟩
        refine hq _ t _ pd (by rw [List.length_append]; show found.length + 1 ≤ 2000; omega) ((same_add sm nq).trans (same_new nt)) ?_
        rw [upd_same, zs_app, List.map_append]
        rfl
    · rw [if_neg h1] at pd
      refine ifF (decide_eq_false (by omega)) ?_
      refine ⟨_, rfl, l, _, rfl, .inl ⟨.of hl, fun t nt => ?_⟩⟩
      exact hq _ t _ pd (by omega) (same_add sm nt) upd_same

end
end RM
namespace RM
open PySem PySem.Spec PyProof.Rows L2
/-! ### how many primes divide a number -/
def prodL : List Nat → Nat
  | [] => 1
  | p :: l => p * prodL l
theorem prod_dvd : ∀ (l : List Nat) (n : Nat), l.Pairwise (· < ·) → (∀ q ∈ l, Pr q ∧ q ∣ n) → prodL l ∣ n
  | [], n, _, _ => Nat.one_dvd n
  | p :: l, n, h, hp => by
    obtain ⟨h1, h2⟩ := List.pairwise_cons.mp h
    obtain ⟨pp, k, e⟩ := hp p List.mem_cons_self
    have := prod_dvd l k h2 fun q hq => ⟨(hp q (List.mem_cons_of_mem _ hq)).1, by
      have a := (hp q (List.mem_cons_of_mem _ hq)).2
      rw [e] at a
      rcases (hp q (List.mem_cons_of_mem _ hq)).1.euclid a with z | z
      · have := pp.eq (hp q (List.mem_cons_of_mem _ hq)).1 z
        have := h1 q hq
        omega
      · exact z⟩
    rw [e]
    exact Nat.mul_dvd_mul_left p this
def factFrom : Nat → Nat → Nat
  | 0, _ => 1
  | k + 1, a => a * factFrom k (a + 1)
theorem factFrom_mono : ∀ (k a b : Nat), a ≤ b → factFrom k a ≤ factFrom k b
  | 0, _, _, _ => Nat.le_refl _
  | k + 1, a, b, h => Nat.mul_le_mul h (factFrom_mono k _ _ (by omega))
theorem prod_ge : ∀ (l : List Nat) (a : Nat), l.Pairwise (· < ·) → (∀ q ∈ l, a ≤ q) → factFrom l.length a ≤ prodL l
  | [], _, _, _ => Nat.le_refl _
  | p :: l, a, h, ha => by
    obtain ⟨h1, h2⟩ := List.pairwise_cons.mp h
    have p0 := ha p List.mem_cons_self
    have := prod_ge l (p + 1) h2 fun q hq => h1 q hq
    show a * factFrom l.length (a + 1) ≤ p * prodL l
    exact Nat.mul_le_mul p0 (Nat.le_trans (factFrom_mono _ _ _ (by omega)) this)
theorem pd_few {n k : Nat} {l : List Nat} (h : PD n l) (h1 : 1 ≤ n) (hk : n < factFrom (k + 1) 2) : l.length ≤ k := by
  rcases Nat.lt_or_ge k l.length with z | z
  · have h2 : ∀ q ∈ l, Pr q ∧ q ∣ n := fun q hq => (h.mem q).mp hq
    have hd := prod_dvd (l.take (k + 1)) n (h.asc.sublist (List.take_sublist _ _)) fun q hq => h2 q (List.mem_of_mem_take hq)
    have hg := prod_ge (l.take (k + 1)) 2 (h.asc.sublist (List.take_sublist _ _)) fun q hq => (h2 q (List.mem_of_mem_take hq)).1.1
    rw [List.length_take, Nat.min_eq_left (show k + 1 ≤ l.length from z)] at hg
    have := Nat.le_of_dvd h1 hd
    omega
  · exact z
/-- the set of the primes that divide a number -/
noncomputable def primeDivs (n : Nat) : List Nat := (List.range (n + 1)).filter fun q => @decide (Pr q ∧ q ∣ n) (Classical.propDecidable _)
theorem primeDivs_pd {n : Nat} (h : 1 ≤ n) : PD n (primeDivs n) := by
  refine ⟨List.Pairwise.filter _ List.pairwise_lt_range, fun q => ?_⟩
  unfold primeDivs
  rw [List.mem_filter, List.mem_range]
  constructor
  · rintro ⟨_, b⟩
    exact (@decide_eq_true_iff _ (Classical.propDecidable _)).mp b
  · intro z
    exact ⟨Nat.lt_succ_of_le (Nat.le_of_dvd h z.2), (@decide_eq_true_iff _ (Classical.propDecidable _)).mpr z⟩
/-! ### rays and lots in the heap -/
def RaysAt (K : PySem.W.Frag) (H : Hp) (vs : List V) (rs : List (List Int)) : Prop :=
  vs.length = rs.length ∧ ∀ (i : Nat) v, vs[i]? = some v → ∃ r a, rs[i]? = some r ∧ v = V.ref a ∧ SqT K H a (r.map V.int)
theorem RaysAt.same {K : PySem.W.Frag} {H H' : Hp} {vs : List V} {rs : List (List Int)} (h : RaysAt K H vs rs) (s : Same H H') : RaysAt K H' vs rs :=
  ⟨h.1, fun i v hv => by
    obtain ⟨r, a, h1, h2, h3⟩ := h.2 i v hv
    exact ⟨r, a, h1, h2, same_t s h3⟩⟩
/-- a lot stands at l -/
def LotAt (K : PySem.W.Frag) (H : Hp) (l : Addr) (size : Int) (rs : List (List Int)) : Prop :=
  ∃ a vs, SqT K H l [.int size, .ref a] ∧ SqT K H a vs ∧ RaysAt K H vs rs
theorem LotAt.same {K : PySem.W.Frag} {H H' : Hp} {l : Addr} {size : Int} {rs : List (List Int)} (h : LotAt K H l size rs) (s : Same H H') : LotAt K H' l size rs := by
  obtain ⟨a, vs, h1, h2, h3⟩ := h
  exact ⟨a, vs, same_t s h1, same_t s h2, h3.same s⟩
/-- a ray whose length is small -/
structure SmallRay (r : List Int) : Prop where
  ok : RayOk r
  fits : Fits r
  pos : 1 ≤ lenN r
  few : lenN r < 1000000
/-- a lot of a class's size; m: a bound of the primes of each length -/
structure LotOk (size : Int) (rs : List (List Int)) : Prop where
  lo : 3 ≤ size
  hi : size ≤ 5
  ray : ∀ r ∈ rs, (r.length : Int) = size ∧ SmallRay r
  few : ∃ m, (∀ r ∈ rs, (primeDivs (lenN r)).length ≤ m) ∧ rs.length * m ≤ 60 ∧ rs.length ≤ 60
/-- the primes of all lengths -/
structure PDs (rs : List (List Int)) (l : List Nat) : Prop where
  asc : l.Pairwise (· < ·)
  mem : ∀ q, q ∈ l ↔ ∃ r ∈ rs, Pr q ∧ q ∣ lenN r
theorem PDs.ext {rs : List (List Int)} {l k : List Nat} (a : PDs rs l) (b : PDs rs k) : l = k := asc_ext a.asc b.asc fun q => (a.mem q).trans (b.mem q).symm
theorem dot_pos : ∀ ns : List Int, 0 ≤ dotL ns ns
  | [] => Int.le_refl 0
  | a :: r => by
    show 0 ≤ a * a + dotL r r
    have := dot_pos r
    have : 0 ≤ a * a := by
      rcases Int.le_total 0 a with h | h
      · exact Int.mul_nonneg h h
      · exact Int.mul_nonneg_of_nonpos_of_nonpos h h
    omega
theorem dot_lenN (ns : List Int) : dotL ns ns = (lenN ns : Int) := by
  have := dot_pos ns
  unfold lenN
  omega
/-! ### lists of naturals as ints -/
theorem zs_append (b c : List Nat) : zs (b ++ c) = zs b ++ zs c := List.map_append ..
theorem zs_asc {b : List Nat} (h : (zs b).Pairwise (· < ·)) : b.Pairwise (· < ·) := by
  unfold zs at h
  rw [List.pairwise_map] at h
  exact h.imp fun h => by omega
theorem zs_mem {b : List Nat} {q : Nat} : (q : Int) ∈ zs b ↔ q ∈ b := by
  unfold zs
  rw [List.mem_map]
  constructor
  · rintro ⟨a, h, e⟩
    have : a = q := by omega
    rw [← this]
    exact h
  · intro h
    exact ⟨q, h, rfl⟩
/-- a list of ints that are naturals -/
theorem zs_of {l : List Int} (h : ∀ z ∈ l, 0 ≤ z) : l = zs (l.map Int.toNat) := by
  unfold zs
  rw [List.map_map]
  refine (List.map_id l).symm.trans (List.map_congr_left fun z hz => ?_)
  have := h z hz
  show z = ((z.toNat : Nat) : Int)
  omega
/-- primes_in(lot) -/
def spPrimesIn (K : PySem.W.Frag) : Sp := fun vs H Q _ => ∃ (l : Addr) (size : Int) (rs : List (List Int)), vs = [.ref l] ∧ LotAt K H l size rs ∧ LotOk size rs ∧
  ∀ (ps : List Nat) (p : Addr) (H' : Hp), PDs rs ps → ps.length ≤ 60 → Same H H' → H' p = some (.tup ((zs ps).map V.int)) → Q (.ref p) H'
section
variable {P : Program} {w : World} {K : PySem.W.Frag} {mg : Str → Option Value} {base : Heap}
theorem cal_primes_in (T : Txt mg) (D : Def K mg "primes_in" s_primes_in) (c_length_by : Cal CX0 P w K mg base "length_by" ["ray"] 4 (spLength K)) (c_primes_by : Cal CX0 P w K mg base "primes_by" ["number"] 2 (spPrimesBy K)) : Cal CX0 P w K mg base "primes_in" ["lot"] 6 (spPrimesIn K) := by
  obtain ⟨f_length_by, fd_length_by, m_length_by, k_length_by, b_length_by, G_length_by⟩ := c_length_by
  obtain ⟨f_primes_by, fd_primes_by, m_primes_by, k_primes_by, b_primes_by, G_primes_by⟩ := c_primes_by
  refine Cal.make D sc_primes_in (fun _ _ _ _ _ _ us hl => match us, hl with | [_], _ => rfl) (fun vs H Q E h => ?_) (fun f cdv A outer s H vs Q E hr h => ?_)
  · obtain ⟨l, size, rs, rfl, _⟩ := h
    rfl
  refine ⟨_, PSs.nox (pss_cons (ps_set (i := 1) sc_primes_in.nd rfl (Or.inl rfl) (pe_lst pa_nil))
    (pss_cons (ps_for PassesOwn.never rfl (pi_list (pe_callB (cr_sortedSet rfl) (by rfl) T.sorted (by decide +kernel) (pa_cons (pe_callTy (cr_setInts rfl) (by rfl) T.set (by decide +kernel) (pa_cons (pe_lc (own := [("ray", 3)]) (g := (gName 3)) rfl sc_primes_in.nd (pi_tup (pe_ix ix_tup (pv 0) pe_int (fun _ _ => rfl))) (blkOk_by (N := n_primes_in) (sc := defScope s_primes_in) (by decide +kernel)) (fun _ _ _ _ _ => (pg_name (i := 3) sc_primes_in.nd rfl (Or.inl rfl))) (fun _ _ _ _ _ => pts_nil) (fun _ _ _ _ _ => (pe_call G_length_by (hr.mono (by decide)) rfl m_length_by k_length_by b_length_by .nil pass0 (pa_cons (pv 3) pa_nil)))) pa_nil)) pa_nil))) (pg_name (i := 2) sc_primes_in.nd rfl (Or.inl rfl))
      (pss_one (ps_set (i := 1) sc_primes_in.nd rfl (Or.inl rfl) (pe_lst (StX.pa_star (pv 1) (StX.pa_star (pe_call G_primes_by (hr.mono (by decide)) rfl m_primes_by k_primes_by b_primes_by .nil pass0 (pa_cons (pv 2) pa_nil)) pa_nil))))))
    (pss_one (ps_ret (pe_callTy call_tuple_of (by rfl) T.tuple (by decide +kernel) (pa_cons (pe_callB (cr_sortedSet rfl) (by rfl) T.sorted (by decide +kernel) (pa_cons (pe_callTy (cr_setInts rfl) (by rfl) T.set (by decide +kernel) (pa_cons (pv 1) pa_nil)) pa_nil)) pa_nil)))))), ?_⟩
  obtain ⟨l, size, rs, rfl, hL, ok, hq⟩ := h
  obtain ⟨a, vs, hl, ha, hr0⟩ := id hL
  obtain ⟨m, hm, hmn, hn60⟩ := ok.few
  refine ⟨by decide, fun f0 nf0 => ?_⟩
  have s0 : Same H (upd H f0 (.lst [])) := same_new nf0
  refine ⟨_, rfl, l, _, 1, _, rfl, rfl, same_t s0 hl, atI_nat (j := 1) rfl, a, rfl, ⟨_, same_t s0 ha⟩, fun D hD => ?_⟩
  have nD : H D = none := s0.free hD
  refine lc_tup (K := K) (a := a) (xs := vs) (LcP (upd H f0 (.lst [])) D fun i => ((rs.take i).map fun r => V.int (lenN r))) (LcP.start hD rfl) (fun i H1 _ p => same_t (s0.trans p.1) ha) ?_ ?_
  · intro i x H1 hi p
    obtain ⟨r, b, hr1, rfl, hr2⟩ := hr0.2 i x hi
    have hrm := ok.ray r (List.mem_of_getElem? hr1)
    refine ⟨rfl, ?_⟩
    refine ⟨_, rfl, b, r, rfl, same_t (s0.trans p.1) hr2, by have := ok.hi; omega, hrm.2.fits, fun H2 s2 => ?_⟩
    exact p.yes hD s2 (by
      show _ = _ ++ [V.int (dotL r r)]
      rw [dot_lenN]
      exact map_take_next hr1) (Nat.lt_of_le_of_lt (map_take_len _ _ _) (by omega))
  · intro H1 p
    have hD1 : H1 D = some (.lst ((zs (rs.map lenN)).map V.int)) := p.at_ (by
      rw [hr0.1, List.take_length]
      unfold zs
      rw [List.map_map, List.map_map]
      rfl)
    refine ⟨D, zs (rs.map lenN), rfl, .of hD1, by rw [zs_len, List.length_map]; omega, fun S c nS hc => ?_⟩
    rw [zs_len, List.length_map] at hc
    refine ⟨S, _, c, rfl, upd_same, by omega, fun L pL asc mem len nL => ?_⟩
    have lin : ∀ z, z ∈ L ↔ ∃ r ∈ rs, z = (lenN r : Int) := fun z => by
      rw [mem, decide_eq_true_iff]
      unfold zs
      rw [List.map_map, List.mem_map]
      constructor
      · rintro ⟨r, hr, e⟩
        exact ⟨r, hr, e.symm⟩
      · rintro ⟨r, hr, e⟩
        exact ⟨r, hr, e.symm⟩
    generalize eH : upd (upd H1 S _) pL (.lst (L.map V.int)) = H2
    have hL2 : H2 pL = some (.lst (L.map V.int)) := by
      rw [← eH]
      exact upd_same
    have s1 : Same H1 H2 := by
      rw [← eH]
      exact same_add (same_new nS) nL
    have sH : Same H H2 := (s0.trans p.1).trans s1
    have f2 : H2 f0 = some (.lst []) := s1 _ _ (p.1 _ _ upd_same)
    refine ⟨pL, rfl, ⟨_, .of hL2⟩, for_list (K := K) (a := pL) (xs := L.map V.int) (fun i σ H3 => ∃ (fs : List Nat) (f : Addr) (y : Option V), σ = [some (.ref l), some (.ref f), y, none] ∧ Same H H3 ∧ H3 pL = some (.lst (L.map V.int)) ∧
      H3 f = some (.lst ((zs fs).map V.int)) ∧ (∀ q, q ∈ fs ↔ ∃ z ∈ L.take i, Pr q ∧ q ∣ z.toNat) ∧ fs.length ≤ i * m) ⟨[], f0, none, rfl, sH, hL2, f2, fun q => by simp, Nat.zero_le _⟩ (fun i σ H3 _ z => ?_) ?_ ?_⟩
    · obtain ⟨_, _, _, _, _, z, _⟩ := z
      exact .of z
    · rintro i y σ H3 hi ⟨fs, f, y0, rfl, s3, h3, h3f, hin, hle⟩
      obtain ⟨z, hz, rfl⟩ := get_int hi
      obtain ⟨r, hr, rfl⟩ := (lin z).mp (List.mem_of_getElem? hz)
      have hs := (ok.ray r hr).2
      have il : i < L.length := (List.getElem?_eq_some_iff.mp hz).1
      refine ⟨_, rfl, f, _, rfl, .inr (.of h3f), ?_⟩
      refine ⟨_, rfl, lenN r, rfl, hs.pos, hs.few, fun ds t H4 pd hd s4 h4 => ⟨t, _, rfl, .inl (.of h4), ?_⟩⟩
      have dl : ds.length ≤ m := by
        rw [pd.ext (primeDivs_pd hs.pos)]
        exact hm r hr
      have lc : L.length ≤ rs.length := by omega
      have fl : fs.length + ds.length ≤ 60 := by
        have : (i + 1) * m ≤ rs.length * m := Nat.mul_le_mul_right m (by omega)
        have e : (i + 1) * m = i * m + m := Nat.succ_mul i m
        omega
      refine ⟨?_, fun g ng => ?_⟩
      · rw [List.append_nil, List.length_append, List.length_map, List.length_map, zs_len, zs_len]
        exact Nat.le_trans fl (by decide)
      · have ng0 : H g = none := (s3.trans s4).free ng
        refine ⟨fs ++ ds, g, _, rfl, same_add (s3.trans s4) ng, ?_, ?_, fun q => ?_, ?_⟩
        · rw [upd_ne (ne_of_none (s4 _ _ h3) ng)]
          exact s4 _ _ h3
        · rw [upd_same, List.append_nil, zs_append, List.map_append]
        · rw [List.mem_append, hin, pd.mem, take_next hz]
          constructor
          · rintro (⟨z, h1, h2⟩ | h1)
            · exact ⟨z, List.mem_append_left _ h1, h2⟩
            · exact ⟨_, List.mem_append_right _ (List.mem_singleton.mpr rfl), h1⟩
          · rintro ⟨z, h1, h2⟩
            rcases List.mem_append.mp h1 with h1 | h1
            · exact .inl ⟨z, h1, h2⟩
            · rw [List.mem_singleton.mp h1] at h2
              exact .inr h2
        · rw [List.length_append, Nat.succ_mul]
          omega
    · rintro σ H3 ⟨fs, f, y0, rfl, s3, h3, h3f, hin, hle⟩
      rw [List.length_map] at hin hle
      rw [List.take_length] at hin
      have fl : fs.length ≤ 60 := by
        have : L.length * m ≤ rs.length * m := Nat.mul_le_mul_right m (by omega)
        omega
      refine ⟨_, rfl, f, zs fs, rfl, .of h3f, by rw [zs_len]; omega, fun S2 c2 nS2 hc2 => ?_⟩
      rw [zs_len] at hc2
      refine ⟨S2, _, c2, rfl, upd_same, by omega, fun R pR ascR memR lenR nR => ⟨pR, _, rfl, .inl ⟨.of upd_same, fun t nt => ?_⟩⟩⟩
      have eR : R = zs (R.map Int.toNat) := zs_of fun z hz => by
        have := (memR z).mp hz
        rw [decide_eq_true_iff] at this
        unfold zs at this
        rw [List.mem_map] at this
        obtain ⟨x, _, e⟩ := this
        omega
      have memR2 : ∀ q, q ∈ R.map Int.toNat ↔ q ∈ fs := fun q => by
        rw [← zs_mem, ← eR, memR, decide_eq_true_iff, zs_mem]
      refine hq (R.map Int.toNat) t _ ⟨zs_asc (by rw [← eR]; exact ascR), fun q => ?_⟩ (by rw [List.length_map]; omega) (same_add (same_add (same_add s3 nS2) nR) nt) (by rw [upd_same, ← eR])
      rw [memR2, hin]
      constructor
      · rintro ⟨z, h1, h2⟩
        obtain ⟨r, hr, rfl⟩ := (lin z).mp h1
        exact ⟨r, hr, h2⟩
      · rintro ⟨r, hr, h2⟩
        exact ⟨_, (lin _).mpr ⟨r, hr, rfl⟩, h2⟩

end
end RM
namespace RM
open PySem PySem.Spec PyProof.Rows L2
section
variable {CX : CXT} {P : Program} {w : World} {K : PySem.W.Frag} {mg : Str → Option Value} {base : Heap}
/-- a def of the text with defaults -/
def DefD (K : PySem.W.Frag) (mg : Str → Option Value) (x : Str) (st : Stmt) (dvs : List V) : Prop :=
  ∃ f fd, mg x = some (.ref f) ∧ FunD K x x (defArgs st) (defBody st) (defScope st) dvs [] f fd
/-- .. that may be called, its last values by default -/
def CalD (CX : CXT) (P : Program) (w : World) (K : PySem.W.Frag) (mg : Str → Option Value) (base : Heap) (x : Str) (ps : List Str) (dvs : List V) (k : Nat) (sp : Sp) : Prop :=
  ∃ f fd ds, mg x = some (.ref f) ∧ PySem.W.keepIn K (.ref f) = true ∧ Binds K fd ps ds ∧ Vals dvs ds ∧ FnOk P w K mg base CX k f fd ps sp
theorem cal_want (D : DefD K mg "want" s_want [.int (-1)]) : CalD CX0 P w K mg base "want" ["is_right", "name", "place"] [.int (-1)] 2 spWantT := by
  obtain ⟨f, fd, hm, F⟩ := D
  obtain ⟨ds, r, b⟩ := F.binds1 (ps := ["is_right", "name", "place"]) 2 0 (by decide) rfl (fun T kV doc pm an cdv ct us its hl hi => match us, its, hl, hi with | [_, _], [_], _, _ => ⟨_, rfl, rfl⟩)
  refine ⟨f, fd, ds, hm, F.kp, b, r, F.ok sc_want (fun vs H Q E h => ?_) (fun cdv A outer s H vs Q E hr h => ?_)⟩
  · obtain ⟨x, y, rfl, _⟩ := h
    rfl
  obtain ⟨x, y, rfl, hq⟩ := h
  refine ⟨_, PSs.nox (pss_one (ps_if (pt_not (pt_val (pv 0))) (pss_one ps_never) pss_nil)), ?_⟩
  exact ⟨_, rfl, true, rfl, hq⟩
theorem cal_want_class (T : Txt mg) (D : Def K mg "want_class" s_want_class) (c_is_class_size : Cal CX0 P w K mg base "is_class_size" ["thing"] 4 (spClassSize)) (c_are_primes : Cal CX0 P w K mg base "are_primes" ["thing"] 6 (spPrimes K)) (c_want : CalD CX0 P w K mg base "want" ["is_right", "name", "place"] [.int (-1)] 2 spWantT) : Cal CX0 P w K mg base "want_class" ["size", "primes"] 8 (spWantClass K) := by
  obtain ⟨f_want, fd_want, ds_want, m_want, k_want, b_want, d_want, G_want⟩ := c_want
  obtain ⟨f_is_class_size, fd_is_class_size, m_is_class_size, k_is_class_size, b_is_class_size, G_is_class_size⟩ := c_is_class_size
  obtain ⟨f_are_primes, fd_are_primes, m_are_primes, k_are_primes, b_are_primes, G_are_primes⟩ := c_are_primes
  refine Cal.make D sc_want_class (fun _ _ _ _ _ _ us hl => match us, hl with | [_, _], _ => rfl) (fun vs H Q E h => ?_) (fun f cdv A outer s H vs Q E hr h => ?_)
  · obtain ⟨i, a, b, rfl, _⟩ := h
    rfl
  refine ⟨_, PSs.nox (pss_cons (ps_expr (pe_call G_want (hr.mono (by decide)) rfl m_want k_want b_want d_want pass0 (pa_cons (pe_call G_is_class_size (hr.mono (by decide)) rfl m_is_class_size k_is_class_size b_is_class_size .nil pass0 (pa_cons (pv 0) pa_nil)) (pa_cons pe_str pa_nil))))
    (pss_one (ps_expr (pe_call G_want (hr.mono (by decide)) rfl m_want k_want b_want d_want pass0 (pa_cons (pe_call G_are_primes (hr.mono (by decide)) rfl m_are_primes k_are_primes b_are_primes .nil pass0 (pa_cons (pv 1) pa_nil)) (pa_cons pe_str pa_nil)))))), ?_⟩
  obtain ⟨i, a, b, rfl, h3, h5, hA, hb, hq⟩ := h
  refine ⟨_, rfl, i, rfl, h3, h5, _, _, rfl, ?_⟩
  refine ⟨_, rfl, a, b, rfl, hA, hb, fun H1 s1 => ⟨_, _, rfl, hq H1 s1⟩⟩

theorem cal_is_class (T : Txt mg) (D : Def K mg "is_class" s_is_class) (c_is_class_size : Cal CX0 P w K mg base "is_class_size" ["thing"] 4 (spClassSize)) (c_are_primes : Cal CX0 P w K mg base "are_primes" ["thing"] 6 (spPrimes K)) : Cal CX0 P w K mg base "is_class" ["thing"] 8 (spIsClass K) := by
  obtain ⟨f_is_class_size, fd_is_class_size, m_is_class_size, k_is_class_size, b_is_class_size, G_is_class_size⟩ := c_is_class_size
  obtain ⟨f_are_primes, fd_are_primes, m_are_primes, k_are_primes, b_are_primes, G_are_primes⟩ := c_are_primes
  refine Cal.make D sc_is_class (fun _ _ _ _ _ _ us hl => match us, hl with | [_], _ => rfl) (fun vs H Q E h => ?_) (fun f cdv A outer s H vs Q E hr h => ?_)
  · obtain ⟨c, i, a, b, rfl, _⟩ := h
    rfl
  refine ⟨_, PSs.nox (pss_one (ps_ret (pe_and (pe_callB call_isi (by rfl) T.isinstance (by decide +kernel) (pa_cons (pv 0) (pa_cons (pe_bltn (v := .ty "tuple") (by rfl) T.tuple (by decide +kernel) rfl) pa_nil))) (pe_and (pe_cmpR op_eq (pe_callB call_len_seq (by rfl) T.len PySem.boot_len (pa_cons (pv 0) pa_nil)) pe_int (nomark _)) (pe_and (pe_call G_is_class_size (hr.mono (by decide)) rfl m_is_class_size k_is_class_size b_is_class_size .nil pass0 (pa_cons (pe_ix ix_tup (pv 0) pe_int (fun _ _ => rfl)) pa_nil)) (pe_one (pe_call G_are_primes (hr.mono (by decide)) rfl m_are_primes k_are_primes b_are_primes .nil pass0 (pa_cons (pe_ix ix_tup (pv 0) pe_int (fun _ _ => rfl)) pa_nil)))))))), ?_⟩
  obtain ⟨c, i, a, b, rfl, hC, h3, h5, hA, hb, hq⟩ := h
  refine ⟨_, rfl, _, _, _, _, _, rfl, .ty "tuple", ty_tuple hC, kit_tuple, true, rfl, iteT ?_⟩
  refine ⟨_, rfl, c, _, rfl, .inr hC, rfl, true, rfl, iteT ?_⟩
  refine ⟨_, rfl, c, _, 0, _, rfl, rfl, hC, atI_nat (j := 0) rfl, i, rfl, h3, h5, true, rfl, iteT ?_⟩
  exact ⟨_, rfl, c, _, 1, _, rfl, rfl, hC, atI_nat (j := 1) rfl, a, b, rfl, hA, hb, hq⟩

theorem cal_is_in_class (T : Txt mg) (D : Def K mg "is_in_class" s_is_in_class) (c_want_class : Cal CX0 P w K mg base "want_class" ["size", "primes"] 8 (spWantClass K)) (c_is_ray_of : Cal CX0 P w K mg base "is_ray_of" ["size", "thing"] 8 (spIsRayOf K)) (c_is_within : Cal CX0 P w K mg base "is_within" ["primes", "ray"] 6 (spWithin K)) (c_want : CalD CX0 P w K mg base "want" ["is_right", "name", "place"] [.int (-1)] 2 spWantT) : CalW CX0 P w K mg base "is_in_class" ["size", "primes", "ray"] ["ray", "size", "primes"] perm3 10 (spInClass K) := by
  obtain ⟨f_want, fd_want, ds_want, m_want, k_want, b_want, d_want, G_want⟩ := c_want
  obtain ⟨f_want_class, fd_want_class, m_want_class, k_want_class, b_want_class, G_want_class⟩ := c_want_class
  obtain ⟨f_is_ray_of, fd_is_ray_of, m_is_ray_of, k_is_ray_of, b_is_ray_of, G_is_ray_of⟩ := c_is_ray_of
  obtain ⟨f_is_within, fd_is_within, m_is_within, k_is_within, b_is_within, G_is_within⟩ := c_is_within
  refine CalW.make perm3 perm3 perm3_rel (fun _ _ _ _ _ _ ws hl => match ws, hl with | [_, _, _], _ => rfl) D sc_is_in_class (fun _ _ _ _ _ _ us hl => match us, hl with | [_, _, _], _ => rfl) (fun vs H Q E h => ?_) (fun f cdv A outer s H vs Q E hr h => ?_)
  · obtain ⟨a, r, b, ns, rfl, _⟩ := h
    rfl
  refine ⟨_, PSs.nox (pss_cons (ps_expr (pe_call G_want_class (hr.mono (by decide)) rfl m_want_class k_want_class b_want_class .nil pass0 (pa_cons (pv 0) (pa_cons (pv 1) pa_nil))))
    (pss_cons (ps_expr (pe_call G_want (hr.mono (by decide)) rfl m_want k_want b_want d_want pass0 (pa_cons (pe_call G_is_ray_of (hr.mono (by decide)) rfl m_is_ray_of k_is_ray_of b_is_ray_of .nil pass0 (pa_cons (pv 0) (pa_cons (pv 2) pa_nil))) (pa_cons pe_str pa_nil))))
    (pss_one (ps_ret (pe_call G_is_within (hr.mono (by decide)) rfl m_is_within k_is_within b_is_within .nil pass0 (pa_cons (pv 1) (pa_cons (pv 2) pa_nil))))))), ?_⟩
  obtain ⟨a, r, b, ns, rfl, h3, h5, hA, hb, hR, ok, fit, pos, hq⟩ := h
  refine ⟨_, rfl, _, rfl, _, a, b, rfl, by omega, by omega, hA, hb, fun H1 s1 => ?_⟩
  refine ⟨_, rfl, _, rfl, r, ns, rfl, same_t s1 hR, by omega, ok, fun H2 s2 => ⟨_, _, rfl, ?_⟩⟩
  exact ⟨_, rfl, _, rfl, a, r, b, ns, lenN ns, rfl, same_t (s1.trans s2) hA, fun p hp => ⟨(hb.pr p hp).1.two, (hb.pr p hp).2⟩, same_t (s1.trans s2) hR, by omega, fit, dot_lenN ns, pos, fun H3 s3 => hq H3 ((s1.trans s2).trans s3)⟩

/-- class_of(lot), of a size from 3 on -/
def spClassOf (K : PySem.W.Frag) : Sp := fun vs H Q _ => ∃ (l : Addr) (size : Int) (rs : List (List Int)), vs = [.ref l] ∧ LotAt K H l size rs ∧ LotOk size rs ∧
  ∀ (ps : List Nat) (p c : Addr) (H' : Hp), PDs rs ps → ps.length ≤ 60 → Same H H' → H' p = some (.tup ((zs ps).map V.int)) → H' c = some (.tup [.int size, .ref p]) → Q (.ref c) H'
theorem cal_class_of (T : Txt mg) (D : Def K mg "class_of" s_class_of) (c_primes_in : Cal CX0 P w K mg base "primes_in" ["lot"] 6 (spPrimesIn K)) (c_want : CalD CX0 P w K mg base "want" ["is_right", "name", "place"] [.int (-1)] 2 spWantT) : CalW CX0 P w K mg base "class_of" ["lot"] ["lot"] id 8 (spClassOf K) := by
  obtain ⟨f_want, fd_want, ds_want, m_want, k_want, b_want, d_want, G_want⟩ := c_want
  obtain ⟨f_primes_in, fd_primes_in, m_primes_in, k_primes_in, b_primes_in, G_primes_in⟩ := c_primes_in
  obtain ⟨t_leastC, hleastC⟩ := T.leastC
  refine CalW.make id id (fun _ _ r => r) (fun _ _ _ _ _ _ ws hl => match ws, hl with | [_], _ => rfl) D sc_class_of (fun _ _ _ _ _ _ us hl => match us, hl with | [_], _ => rfl) (fun vs H Q E h => ?_) (fun f cdv A outer s H vs Q E hr h => ?_)
  · obtain ⟨l, size, rs, rfl, _⟩ := h
    rfl
  refine ⟨_, PSs.nox (pss_cons (ps_expr (pe_call G_want (hr.mono (by decide)) rfl m_want k_want b_want d_want pass0 (pa_cons (pe_cmpR op_ge (pe_ix ix_tup (pv 0) pe_int (fun _ _ => rfl)) (pe_glob (v := .int 3) rfl hleastC ⟨_, rfl⟩) (nomark _)) (pa_cons pe_str pa_nil))))
    (pss_one (ps_ret (pe_tup (pa_cons (pe_ix ix_tup (pv 0) pe_int (fun _ _ => rfl)) (pa_cons (pe_call G_primes_in (hr.mono (by decide)) rfl m_primes_in k_primes_in b_primes_in .nil pass0 (pa_cons (pv 0) pa_nil)) pa_nil)))))), ?_⟩
  obtain ⟨l, size, rs, rfl, hL, ok, hq⟩ := h
  obtain ⟨a, vs, hl, ha, hr0⟩ := id hL
  have h3 := ok.lo
  refine ⟨_, rfl, l, _, 0, _, rfl, rfl, hl, atI_nat (j := 0) rfl, _, _, rfl, rfl, ?_⟩
  refine ⟨_, _, List.cons_eq_cons.mpr ⟨blT h3, rfl⟩, ?_⟩
  refine ⟨_, rfl, l, _, 0, _, rfl, rfl, hl, atI_nat (j := 0) rfl, ?_⟩
  refine ⟨_, rfl, l, size, rs, rfl, hL, ok, fun ps p H1 pd len s1 hp => ?_⟩
  exact ⟨by show 2 ≤ sizeLine; decide, fun c nc => hq ps p c _ pd len (same_add s1 nc) (by rw [upd_ne (ne_of_none hp nc)]; exact hp) upd_same⟩

end
end RM
namespace RM
open PySem PySem.Spec PyProof.Rows L2
/-! ### the spring: a dict of four -/
def sprK (c : Addr) (spot left count : Int) : List (Key × V) := [(Sum.inr "cells", .ref c), (Sum.inr "spot", .int spot), (Sum.inr "left", .int left), (Sum.inr "count", .int count)]
theorem kne {x y : Str} (h : ¬ x = y) : ¬ (Sum.inr x : Key) = Sum.inr y := fun z => h (Sum.inr.inj z)
theorem n1 : ¬ ("cells" : Str) = "spot" := by decide +kernel
theorem n2 : ¬ ("cells" : Str) = "left" := by decide +kernel
theorem n3 : ¬ ("cells" : Str) = "count" := by decide +kernel
theorem n4 : ¬ ("spot" : Str) = "left" := by decide +kernel
theorem n5 : ¬ ("spot" : Str) = "count" := by decide +kernel
theorem n6 : ¬ ("left" : Str) = "count" := by decide +kernel
section
variable {H : Hp} {d c : Addr} {spot left count v : Int}
theorem v_cells : valV (sprK c spot left count) (Sum.inr "cells") = some (.ref c) := valV_pos rfl
theorem get_cells (h : H d = some (.dK (sprK c spot left count))) : DGet H d (.str "cells") (some (.ref c)) := by
  have g := DGet.k (k := Sum.inr "cells") h
  rw [v_cells] at g
  exact g
theorem v_spot : valV (sprK c spot left count) (Sum.inr "spot") = some (.int spot) := (valV_neg (kne n1)).trans (valV_pos rfl)
theorem get_spot (h : H d = some (.dK (sprK c spot left count))) : DGet H d (.str "spot") (some (.int spot)) := by
  have g := DGet.k (k := Sum.inr "spot") h
  rw [v_spot] at g
  exact g
theorem v_left : valV (sprK c spot left count) (Sum.inr "left") = some (.int left) := (valV_neg (kne n2)).trans ((valV_neg (kne n4)).trans (valV_pos rfl))
theorem get_left (h : H d = some (.dK (sprK c spot left count))) : DGet H d (.str "left") (some (.int left)) := by
  have g := DGet.k (k := Sum.inr "left") h
  rw [v_left] at g
  exact g
theorem v_count : valV (sprK c spot left count) (Sum.inr "count") = some (.int count) := (valV_neg (kne n3)).trans ((valV_neg (kne n5)).trans ((valV_neg (kne n6)).trans (valV_pos rfl)))
theorem get_count (h : H d = some (.dK (sprK c spot left count))) : DGet H d (.str "count") (some (.int count)) := by
  have g := DGet.k (k := Sum.inr "count") h
  rw [v_count] at g
  exact g
theorem put_spot (h : H d = some (.dK (sprK c spot left count))) : DPut H d (.str "spot") (.int v) (upd H d (.dK (sprK c v left count))) := by
  have a : ((sprK c spot left count).any fun kv => decide (kv.1 = (Sum.inr "spot" : Key))) = true := by
    rw [valV_any, v_spot] <;> rfl
  have e : putK (sprK c spot left count) (Sum.inr "spot") (.int v) = sprK c v left count := by
    unfold putK
    rw [if_pos a]
    simp [sprK, n1, n2, n3, n4, n5, n6, Ne.symm n1, Ne.symm n2, Ne.symm n3, Ne.symm n4, Ne.symm n5, Ne.symm n6]
  have g := DPut.k (k := Sum.inr "spot") (v := .int v) h (by show 4 < sizeLine; decide)
  rw [e] at g
  exact g
theorem put_left (h : H d = some (.dK (sprK c spot left count))) : DPut H d (.str "left") (.int v) (upd H d (.dK (sprK c spot v count))) := by
  have a : ((sprK c spot left count).any fun kv => decide (kv.1 = (Sum.inr "left" : Key))) = true := by
    rw [valV_any, v_left] <;> rfl
  have e : putK (sprK c spot left count) (Sum.inr "left") (.int v) = sprK c spot v count := by
    unfold putK
    rw [if_pos a]
    simp [sprK, n1, n2, n3, n4, n5, n6, Ne.symm n1, Ne.symm n2, Ne.symm n3, Ne.symm n4, Ne.symm n5, Ne.symm n6]
  have g := DPut.k (k := Sum.inr "left") (v := .int v) h (by show 4 < sizeLine; decide)
  rw [e] at g
  exact g
theorem put_count (h : H d = some (.dK (sprK c spot left count))) : DPut H d (.str "count") (.int v) (upd H d (.dK (sprK c spot left v))) := by
  have a : ((sprK c spot left count).any fun kv => decide (kv.1 = (Sum.inr "count" : Key))) = true := by
    rw [valV_any, v_count] <;> rfl
  have e : putK (sprK c spot left count) (Sum.inr "count") (.int v) = sprK c spot left v := by
    unfold putK
    rw [if_pos a]
    simp [sprK, n1, n2, n3, n4, n5, n6, Ne.symm n1, Ne.symm n2, Ne.symm n3, Ne.symm n4, Ne.symm n5, Ne.symm n6]
  have g := DPut.k (k := Sum.inr "count") (v := .int v) h (by show 4 < sizeLine; decide)
  rw [e] at g
  exact g
end
/-- a spring stands at d, its cells at c -/
def SprAt (H : Hp) (c d : Addr) : Prop := ∃ (cells : List Int) (spot left count : Int), H d = some (.dK (sprK c spot left count)) ∧ H c = some (.lst (cells.map V.int)) ∧ cells.length ≤ 60 ∧ 0 ≤ spot ∧ 0 ≤ left
/-- all but the dicts stand as they stood -/
def ExD (H H' : Hp) : Prop := ∀ b o, H b = some o → (∀ kvs, o ≠ .dK kvs) → H' b = some o
theorem ExD.refl (H : Hp) : ExD H H := fun _ _ h _ => h
theorem ExD.trans {H H1 H2 : Hp} (a : ExD H H1) (b : ExD H1 H2) : ExD H H2 := fun c o h n => b c o (a c o h n) n
theorem ExD.of {H H' : Hp} (s : Same H H') : ExD H H' := fun b o h _ => s b o h
theorem ExD.lst {H H' : Hp} {a : Addr} {xs : List V} (e : ExD H H') (h : H a = some (.lst xs)) : H' a = some (.lst xs) := e _ _ h (fun _ z => by cases z)
theorem ExD.t {K : PySem.W.Frag} {H H' : Hp} {a : Addr} {xs : List V} (e : ExD H H') (h : SqT K H a xs) : SqT K H' a xs := by
  rcases h with (h | ⟨o, h⟩) | h
  · exact .inl (.inl (e _ _ h (fun _ z => by cases z)))
  · exact .inl (.inr ⟨o, e _ _ h (fun _ z => by cases z)⟩)
  · exact .inr h
theorem ExD.put {H : Hp} {d : Addr} {kvs k2 : List (Key × V)} (h : H d = some (.dK kvs)) : ExD H (upd H d (.dK k2)) := fun b o e n => by
  have : b ≠ d := fun z => by
    rw [z, h] at e
    exact n kvs (Option.some.inj e).symm
  rw [upd_ne this]
  exact e
theorem SprAt.same {H H' : Hp} {c d : Addr} (h : SprAt H c d) (s : Same H H') : SprAt H' c d := by
  obtain ⟨cells, a, b, n, h1, h2, h3⟩ := h
  exact ⟨cells, a, b, n, s _ _ h1, s _ _ h2, h3⟩
/-- the spring's own objects are no new one -/
theorem SprAt.ne {H : Hp} {c d p : Addr} (h : SprAt H c d) (hp : H p = none) : c ≠ p ∧ d ≠ p := by
  obtain ⟨cells, a, b, n, h1, h2, _⟩ := h
  exact ⟨ne_of_none h2 hp, ne_of_none h1 hp⟩
theorem SprAt.put {H : Hp} {c d p : Addr} {o : HO} (h : SprAt H c d) (n : c ≠ p ∧ d ≠ p) : SprAt (upd H p o) c d := by
  obtain ⟨cells, x, b, y, h1, h2, h3⟩ := h
  exact ⟨cells, x, b, y, by rw [upd_ne n.2]; exact h1, by rw [upd_ne n.1]; exact h2, h3⟩
def spSpring (K : PySem.W.Frag) : Sp := fun vs H Q _ => ∃ (a : Addr) (ns : List Int), vs = [.ref a] ∧ SqL K H a (ns.map V.int) ∧ ∀ c d H', Same H H' → SprAt H' c d → Q (.ref d) H'
/-- a draw: a number below the limit -/
def spDip : Sp := fun vs H Q _ => ∃ (c d : Addr) (limit : Int), vs = [.ref d, .int limit] ∧ SprAt H c d ∧ 0 < limit ∧ limit < 2 ^ 200 ∧
  ∀ n H', 0 ≤ n → n < limit → SprAt H' c d → ExD H H' → Q (.int n) H'
section
variable {P : Program} {w : World} {K : PySem.W.Frag} {mg : Str → Option Value} {base : Heap}
theorem cal_law_spring (T : Txt mg) (D : Def K mg "_law_spring" s_law_spring)  : Cal CX0 P w K mg base "_law_spring" ["_law_script"] 2 (spSpring K) := by
  refine Cal.make D sc_law_spring (fun _ _ _ _ _ _ us hl => match us, hl with | [_], _ => rfl) (fun vs H Q E h => ?_) (fun f cdv A outer s H vs Q E hr h => ?_)
  · obtain ⟨a, ns, rfl, _⟩ := h
    rfl
  refine ⟨_, PSs.nox (pss_one (ps_ret (pe_disp (pps_cons pe_str (pe_callTy call_list_of (by rfl) T.list (by decide +kernel) (pa_cons (pe_slice sl_list (pv 0) po_none (po_some pe_int)) pa_nil)) (pps_cons pe_str pe_int (pps_cons pe_str pe_int (pps_cons pe_str pe_int pps_nil)))) (by rfl) (by rfl) (fun z => by cases z) (by decide)))), ?_⟩
  obtain ⟨a, ns, rfl, hS, hq⟩ := h
  intro p np
  have s1 : Same H (upd H p (.dK [])) := same_new np
  refine ⟨_, rfl, 60, rfl, a, _, rfl, s1.seq hS, fun c nc => ?_⟩
  refine ⟨c, _, rfl, .inl lst_at, fun l nl => ?_⟩
  have e1 : cutV (ns.map V.int) none (some 60) = (ns.take 60).map V.int := by
    unfold cutV
    rw [HT.sIx_none, show HT.sIx (ns.map V.int).length (ns.map V.int).length (some 60) = min 60 (ns.map V.int).length from HT.sIx_nat _ _ 60, List.drop_zero, Nat.sub_zero, List.length_map, ← List.map_take]
    congr 1
    rw [← List.take_take, List.take_length]
  have pc : p ≠ c := fun z => by rw [← z, upd_same] at nc; cases nc
  have lc : l ≠ c := fun z => by rw [z, upd_same] at nl; cases nl
  have pl : p ≠ l := fun z => by rw [← z, upd_ne pc, upd_same] at nl; cases nl
  refine ⟨by rw [upd_ne pl, upd_ne pc, upd_same], [(Sum.inr "cells", .ref l), (Sum.inr "spot", .int 0), (Sum.inr "left", .int 0), (Sum.inr "count", .int 0)], rfl, by show 4 ≤ 15; decide, ?_⟩
  have hl : H l = none := (s1.trans (same_new nc)).free nl
  refine hq l p _ (same_put (same_add (s1.trans (same_new nc)) nl) np) ⟨ns.take 60, 0, 0, 0, ?_, ?_, List.length_take_le 60 ns, Int.le_refl 0, Int.le_refl 0⟩
  · rw [upd_same]
    unfold mergeK
    simp only [List.foldl_cons, List.foldl_nil]
    have m1 : putK ([] : List (Key × V)) (Sum.inr "cells") (V.ref l) = [((Sum.inr "cells" : Key), V.ref l)] := putK_new _ valV_nil
    have m2 : putK [((Sum.inr "cells" : Key), V.ref l)] (Sum.inr "spot") (V.int 0) = [((Sum.inr "cells" : Key), V.ref l), (Sum.inr "spot", V.int 0)] := putK_new _ ((valV_neg (kne n1)).trans valV_nil)
    have m3 : putK [((Sum.inr "cells" : Key), V.ref l), (Sum.inr "spot", V.int 0)] (Sum.inr "left") (V.int 0) = [((Sum.inr "cells" : Key), V.ref l), (Sum.inr "spot", V.int 0), (Sum.inr "left", V.int 0)] := putK_new _ ((valV_neg (kne n2)).trans ((valV_neg (kne n4)).trans valV_nil))
    have m4 : putK [((Sum.inr "cells" : Key), V.ref l), (Sum.inr "spot", V.int 0), (Sum.inr "left", V.int 0)] (Sum.inr "count") (V.int 0) = sprK l 0 0 0 := putK_new _ ((valV_neg (kne n3)).trans ((valV_neg (kne n5)).trans ((valV_neg (kne n6)).trans valV_nil)))
    rw [m1, m2, m3, m4]
  · rw [upd_ne (fun z => pl z.symm), upd_same, e1]

theorem cal_law_dip (T : Txt mg) (D : Def K mg "_law_dip" s_law_dip)  : Cal CX0 P w K mg base "_law_dip" ["_law_spring_here", "_law_limit"] 2 (spDip) := by
  refine Cal.make D sc_law_dip (fun _ _ _ _ _ _ us hl => match us, hl with | [_, _], _ => rfl) (fun vs H Q E h => ?_) (fun f cdv A outer s H vs Q E hr h => ?_)
  · obtain ⟨c, d, limit, rfl, _⟩ := h
    rfl
  have hu := hu_of hr
  refine ⟨_, PSs.nox (pss_cons (ps_dput hu (pv 0) pe_str (pe_op op_add (pe_dget hu (pv 0) pe_str (fun _ _ => rfl)) pe_int) rfl)
    (pss_cons (ps_if (pt_cmpR op_gt (pe_dget hu (pv 0) pe_str (fun _ _ => rfl)) pe_int (nomark _)) (pss_cons (ps_set (i := 5) sc_law_dip.nd rfl (Or.inl rfl) (pe_op op_mod (pe_callTy call_int1 (by rfl) T.int (by decide +kernel) (pa_cons (pe_dget hu (pv 0) pe_str (fun _ _ => rfl)) pa_nil)) (pv 1)))
    (pss_cons (ps_dput hu (pv 0) pe_str (pe_op op_fdivW (pe_dget hu (pv 0) pe_str (fun _ _ => rfl)) (pv 1)) rfl)
    (pss_one (ps_ret (pv 5))))) pss_nil)
    (pss_cons (ps_set (i := 2) sc_law_dip.nd rfl (Or.inl rfl) (pe_dget hu (pv 0) pe_str (fun _ _ => rfl)))
    (pss_cons (ps_dput hu (pv 0) pe_str (pe_op op_add (pv 2) pe_int) rfl)
    (Evl.pss_cut (ps_set (i := 3) sc_law_dip.nd rfl (Or.inl rfl) (pe_ifExp (pt_cmpR (op_neE hr.units) (pe_dget hu (pv 0) pe_str (fun _ _ => rfl)) (pe_lst pa_nil) (nomark _)) (pe_ix ix_list (pe_dget hu (pv 0) pe_str (fun _ _ => rfl)) (pe_op op_mod (pe_callTy call_int1 (by rfl) T.int (by decide +kernel) (pa_cons (pv 2) pa_nil)) (pe_callB call_len_seq (by rfl) T.len PySem.boot_len (pa_cons (pe_dget hu (pv 0) pe_str (fun _ _ => rfl)) pa_nil))) (fun _ _ => rfl)) pe_int))
    (Evl.pss_cut (ps_if (PW.pt (pw_and (pt_cmpR op_ge (pv 3) (pe_op op_pow pe_int pe_int) (nomark _)) (pw_and1 (pt_cmpR op_lt (pv 2) (pe_callB call_len_seq (by rfl) T.len PySem.boot_len (pa_cons (pe_dget hu (pv 0) pe_str (fun _ _ => rfl)) pa_nil)) (nomark _))))) (pss_cons (ps_dput hu (pv 0) pe_str (pe_op op_fdivW (pv 3) (pv 1)) rfl)
    (pss_one (ps_ret (pe_op op_mod (pe_callTy call_int1 (by rfl) T.int (by decide +kernel) (pa_cons (pv 3) pa_nil)) (pv 1))))) pss_nil)
    (pss_cons (ps_set (i := 4) sc_law_dip.nd rfl (Or.inl rfl) (pe_op op_mod (pe_callTy call_int1 (by rfl) T.int (by decide +kernel) (pa_cons (pe_op op_add (pe_op op_add (pe_op op_mod (pe_callTy call_int1 (by rfl) T.int (by decide +kernel) (pa_cons (pv 3) pa_nil)) pe_int) (pe_op op_mul pe_int (pe_dget hu (pv 0) pe_str (fun _ _ => rfl)))) pe_int) pa_nil)) pe_int))
    (pss_cons (ps_set (i := 4) sc_law_dip.nd rfl (Or.inl rfl) (pe_op op_mod (pe_callTy call_int1 (by rfl) T.int (by decide +kernel) (pa_cons (pe_op op_add (pe_op op_add (pe_op op_mul (pv 4) (pv 4)) (pe_op op_mul pe_int (pe_dget hu (pv 0) pe_str (fun _ _ => rfl)))) pe_int) pa_nil)) pe_int))
    (pss_one (ps_ret (pe_op op_mod (pe_callTy call_int1 (by rfl) T.int (by decide +kernel) (pa_cons (pe_op op_fdivW (pe_op op_mod (pe_callTy call_int1 (by rfl) T.int (by decide +kernel) (pa_cons (pe_op op_add (pe_op op_mul (pv 4) (pv 4)) (pe_op op_mul pe_int (pv 4))) pa_nil)) pe_int) pe_int) pa_nil)) (pv 1)))))))))))), ?_⟩
  obtain ⟨c, d, limit, rfl, ⟨cells, spot, left, count, h1, hc, hn, hs, hl⟩, l0, l9, hq⟩ := h
  -- count
  refine ⟨_, rfl, _, _, rfl, get_count h1, _, _, rfl, rfl, _, rfl, _, _, rfl, put_count h1, ?_⟩
  generalize eA : upd H d (.dK (sprK c spot left (count + 1))) = HA
  have hA : HA d = some (.dK (sprK c spot left (count + 1))) := by rw [← eA]; exact upd_same
  have xA : ExD H HA := by rw [← eA]; exact ExD.put h1
  have cA := xA.lst hc
  have fin : ∀ n, 0 ≤ n % limit ∧ n % limit < limit := fun n => ⟨Int.emod_nonneg n (by omega), Int.emod_lt_of_pos n l0⟩
  have l9' : limit.natAbs < 2 ^ 200 := by omega
  refine ⟨_, rfl, _, _, rfl, get_left hA, _, _, rfl, rfl, _, rfl, ?_⟩
  refine ite2 (fun hp => ?_) (fun hp => ?_)
  · have hp : 0 < left := of_decide_eq_true hp
    refine ⟨_, rfl, _, _, rfl, get_left hA, .inl ⟨_, rfl, ?_⟩⟩
    refine ⟨_, rfl, _, _, rfl, rfl, l0, ?_⟩
    refine ⟨_, rfl, _, _, rfl, get_left hA, _, rfl, _, _, rfl, rfl, wide_div l0 l9' (by decide) (by decide), _, rfl, _, _, rfl, put_left hA, ?_⟩
    refine ⟨_, rfl, ?_⟩
    exact hq _ _ (fin _).1 (fin _).2 ⟨cells, spot, left / limit, count + 1, upd_same, (ExD.put hA).lst cA, hn, hs, Int.ediv_nonneg hl (by omega)⟩ (xA.trans (ExD.put hA))
  -- spot
  refine ⟨_, rfl, _, _, rfl, get_spot hA, ?_⟩
  refine ⟨_, rfl, _, _, rfl, rfl, _, rfl, _, _, rfl, put_spot hA, ?_⟩
  generalize eB : upd HA d (.dK (sprK c (spot + 1) left (count + 1))) = HB
  have hB : HB d = some (.dK (sprK c (spot + 1) left (count + 1))) := by rw [← eB]; exact upd_same
  have xB : ExD H HB := by rw [← eB]; exact xA.trans (ExD.put hA)
  have cB := xB.lst hc
  -- the cell
  refine ⟨fun σ' H' => ∃ cell : Int, σ' = ((start n_law_dip [V.ref d, V.int limit]).set 2 (some (V.int spot))).set 3 (some (V.int cell)) ∧ Same HB H', ?_, ?_⟩
  · refine ⟨_, rfl, _, _, rfl, get_cells hB, Nat.zero_le _, fun e ne => ?_⟩
    have sC : Same HB (upd HB e (.lst [])) := same_new ne
    refine ⟨c, e, cells.map V.int, rfl, rfl, .of (sC _ _ cB), lst_at, elem_ints, _, rfl, ?_⟩
    refine ite2 (fun hv => ?_) (fun hv => ?_)
    · have hlen : 0 < cells.length := by
        cases cells with
        | nil => cases hv
        | cons a l => exact Nat.succ_pos _
      have hBe := sC _ _ hB
      have cBe := sC _ _ cB
      refine ⟨_, rfl, _, _, rfl, get_cells hBe, _, rfl, .inl ⟨_, rfl, ?_⟩⟩
      refine ⟨_, rfl, _, _, rfl, get_cells hBe, c, _, rfl, .inl (.of cBe), ?_⟩
      have hm0 := Int.emod_nonneg spot (b := ((cells.length : Nat) : Int)) (by omega)
      have hm1 := Int.emod_lt_of_pos spot (b := ((cells.length : Nat) : Int)) (by omega)
      obtain ⟨j, hj⟩ := Int.eq_ofNat_of_zero_le hm0
      have hjl : j < cells.length := by omega
      refine ⟨_, _, rfl, rfl, by rw [List.length_map]; omega, ?_⟩
      refine ⟨c, _, _, V.int cells[j], rfl, rfl, .of cBe, ?_, cells[j], rfl, sC⟩
      rw [List.length_map, hj]
      exact atI_nat (j := j) (by rw [List.getElem?_map, List.getElem?_eq_getElem hjl] <;> rfl)
    · exact ⟨9352, rfl, sC⟩
  rintro σ' HC ⟨cell, rfl, sC⟩
  have hC := sC _ _ hB
  have cC := sC _ _ cB
  have xC : ExD H HC := xB.trans (ExD.of sC)
  refine ⟨fun σ2 H2 => σ2 = ((start n_law_dip [V.ref d, V.int limit]).set 2 (some (V.int spot))).set 3 (some (V.int cell)) ∧ H2 = HC, ?_, ?_⟩
  · refine ⟨_, rfl, _, _, rfl, rfl, ⟨by decide, by decide, by decide⟩, _, _, rfl, rfl, _, rfl, ?_⟩
    refine ite2 (fun hb => ?_) (fun hb => iteF ⟨rfl, rfl⟩)
    have hb : (10 : Int) ^ 18 ≤ cell := of_decide_eq_true hb
    have hb0 : 0 ≤ cell := Int.le_trans (by decide) hb
    refine ⟨_, rfl, _, rfl, _, _, rfl, get_cells hC, c, _, rfl, .inl (.of cC), _, _, rfl, rfl, _, rfl, ?_⟩
    refine ite2 (fun hd => ?_) (fun hd => ⟨rfl, rfl⟩)
    refine ⟨_, rfl, _, rfl, _, _, rfl, rfl, wide_div l0 l9' (by decide) (by decide), _, rfl, _, _, rfl, put_left hC, ?_⟩
    refine ⟨_, rfl, .inl ⟨_, rfl, _, rfl, _, _, rfl, rfl, l0, ?_⟩⟩
    exact hq _ _ (fin _).1 (fin _).2 ⟨cells, spot + 1, cell / limit, count + 1, upd_same, (ExD.put hC).lst cC, hn, by omega, Int.ediv_nonneg hb0 (by omega)⟩ (xC.trans (ExD.put hC))
  rintro σ2 H2 ⟨rfl, e2⟩
  rw [e2]
  have small : ∀ x m : Int, 0 < m → m < 2 ^ 40 → CMul (x % m) (x % m) := fun x m h0 h9 => by
    have := Int.emod_nonneg x (b := m) (by omega)
    have := Int.emod_lt_of_pos x h0
    exact .inl ⟨by omega, by omega⟩
  have lo : ∀ k x : Int, 0 ≤ k → k < 2 ^ 40 → CMul k x := fun k x h0 h9 => .inl ⟨by omega, by omega⟩
  refine ⟨_, rfl, .inl ⟨_, rfl, _, _, rfl, rfl, by show (0 : Int) < _; decide, ?_⟩⟩
  refine ⟨_, rfl, _, _, rfl, get_count hC, _, _, rfl, rfl, lo _ _ (by decide) (by decide), _, _, rfl, rfl, _, _, rfl, rfl, .inl ⟨_, rfl, _, _, rfl, rfl, by show (0 : Int) < _; decide, ?_⟩⟩
  refine ⟨_, rfl, _, rfl, _, _, rfl, rfl, small _ _ (by decide) (by decide), _, rfl, _, _, rfl, get_count hC, _, _, rfl, rfl, lo _ _ (by decide) (by decide), _, _, rfl, rfl, _, _, rfl, rfl, .inl ⟨_, rfl, _, _, rfl, rfl, by show (0 : Int) < _; decide, ?_⟩⟩
  refine ⟨_, rfl, _, rfl, _, _, rfl, rfl, small _ _ (by decide) (by decide), _, rfl, _, _, rfl, rfl, lo _ _ (by decide) (by decide), _, _, rfl, rfl, .inl ⟨_, rfl, _, _, rfl, rfl, by show (0 : Int) < _; decide, ?_⟩⟩
  refine ⟨_, _, rfl, rfl, wide_div (b := 40) (by decide) (by decide) (by decide) (by decide), .inl ⟨_, rfl, _, rfl, _, _, rfl, rfl, l0, ?_⟩⟩
  exact hq _ _ (fin _).1 (fin _).2 ⟨cells, spot + 1, left, count + 1, hC, cC, hn, by omega, hl⟩ xC


end
end RM
namespace RM
open PySem PySem.Spec PyProof.Rows L2
section
variable {X : Cx} {tg e : Expr} {t1 t2 : TI}
/-- what is gone over is one thing or the other -/
def tiOr (t1 t2 : TI) : TI := fun σ H R => t1 σ H R ∨ t2 σ H R
theorem pi_or (h1 : PI X tg e t1) (h2 : PI X tg e t2) : PI X tg e (tiOr t1 t2) :=
  ⟨fun pins s σ H R I h => h.elim (h1.run pins s σ H R I) (h2.run pins s σ H R I)⟩
end
/-- laps of the division in turn -/
structure Laps (a b i : Nat) (x y : Nat) : Prop where
  g : Nat.gcd x y = Nat.gcd a b
  z : i = 0 → x * y ≤ a * b
  lt : 1 ≤ i → y < x
  le : 1 ≤ i → x * y * 2 ^ (i - 1) ≤ a * b
theorem Laps.start (a b : Nat) : Laps a b 0 a b := ⟨rfl, fun _ => Nat.le_refl _, fun h => absurd h (by decide), fun h => absurd h (by decide)⟩
theorem Laps.step {a b i x y : Nat} (h : Laps a b i x y) (hy : y ≠ 0) : Laps a b (i + 1) y (x % y) := by
  refine ⟨by rw [← h.g]; exact gcd_step rfl, fun h => absurd h (by omega), fun _ => Nat.mod_lt _ (by omega), fun _ => ?_⟩
  rcases Nat.eq_zero_or_pos i with z | z
  · subst z
    refine Nat.le_trans ?_ (h.z rfl)
    show y * (x % y) * 1 ≤ x * y
    rw [Nat.mul_one, Nat.mul_comm]
    exact Nat.mul_le_mul_right y (Nat.mod_le x y)
  · have l := h.lt z
    have m := h.le z
    obtain ⟨j, rfl⟩ : ∃ j, i = j + 1 := ⟨i - 1, by omega⟩
    show y * (x % y) * 2 ^ (j + 1) ≤ a * b
    refine Nat.le_trans ?_ m
    show _ ≤ x * y * 2 ^ j
    have e := Nat.div_add_mod x y
    have q : 1 ≤ x / y := Nat.div_pos (by omega) (by omega)
    have r := Nat.mod_lt x (show 0 < y by omega)
    have : y * 1 ≤ y * (x / y) := Nat.mul_le_mul_left y q
    have two : 2 * (x % y) ≤ x := by omega
    calc y * (x % y) * 2 ^ (j + 1) = (2 * (x % y)) * y * 2 ^ j := by
          rw [Nat.pow_succ]; ac_rfl
      _ ≤ x * y * 2 ^ j := Nat.mul_le_mul_right _ (Nat.mul_le_mul_right _ two)
theorem Laps.done {a b i x y : Nat} (h : Laps a b i x y) (hy : y = 0) : x = Nat.gcd a b := by
  have := h.g
  rw [hy, Nat.gcd_zero_right] at this
  exact this
theorem Laps.last {a b i x y : Nat} (h : Laps a b (i + 1) x y) (hb : a * b < 2 ^ i) : y = 0 := by
  have l := h.lt (by omega)
  have m := h.le (by omega)
  rcases Nat.eq_zero_or_pos y with z | z
  · exact z
  · have : 1 ≤ x * y := Nat.mul_pos (by omega) z
    have : 1 * 2 ^ i ≤ x * y * 2 ^ i := Nat.mul_le_mul_right _ this
    have e : i + 1 - 1 = i := rfl
    rw [e] at m
    omega
def spLCommon : Sp := fun vs H Q _ => ∃ a b : Nat, vs = [.int a, .int b] ∧ a < 2 ^ 700 ∧ b < 2 ^ 700 ∧ Q (.int (Nat.gcd a b)) H
theorem gcdAll_lt : ∀ (ns : List Int), Fits ns → gcdAll ns < 2 ^ 200 := by
  have key : ∀ (ns : List Int) (g : Nat), Fits ns → g < 2 ^ 200 → ns.foldl (fun g n => Nat.gcd g n.natAbs) g < 2 ^ 200 := by
    intro ns
    induction ns with
    | nil => exact fun g _ h => h
    | cons n ns ih =>
      intro g hf hg
      refine ih _ (fun m hm => hf m (List.mem_cons_of_mem _ hm)) ?_
      have hn := hf n List.mem_cons_self
      rcases Nat.eq_zero_or_pos g with z | z
      · show Nat.gcd g n.natAbs < _
        rw [z, Nat.gcd_zero_left]
        exact hn
      · exact Nat.lt_of_le_of_lt (Nat.gcd_le_left _ z) hg
  exact fun ns hf => key ns 0 hf (by decide)
theorem strip_le {r p : Nat} (hp : 2 ≤ p) (hr : 1 ≤ r) : strip r p ≤ r := by
  induction r using Nat.strongRecOn with
  | _ r ih =>
    by_cases h : r % p = 0
    · rw [strip_yes hp hr h]
      exact Nat.le_trans (ih (r / p) (Nat.div_lt_self (by omega) (by omega)) (Nat.div_pos (Nat.le_of_dvd (by omega) (Nat.dvd_of_mod_eq_zero h)) (by omega))) (Nat.div_le_self r p)
    · rw [strip_no hr h]
      exact Nat.le_refl r
theorem fold_le : ∀ (b : List Nat) (n : Nat), (∀ p ∈ b, 2 ≤ p) → 1 ≤ n → b.foldl strip n ≤ n
  | [], _, _, _ => Nat.le_refl _
  | p :: b, n, hp, h => Nat.le_trans (fold_le b _ (fun q hq => hp q (List.mem_cons_of_mem _ hq)) (strip_pos (hp p List.mem_cons_self) h)) (strip_le (hp p List.mem_cons_self) h)
theorem Fits.take {ns : List Int} (h : Fits ns) (i : Nat) : Fits (ns.take i) := fun n hn => h n (List.mem_of_mem_take hn)
/-- the common divisor of entries in a list or a tuple -/
def spLCommonOf (K : PySem.W.Frag) : Sp := fun vs H Q _ => ∃ (a : Addr) (ns : List Int), vs = [.ref a] ∧ (SqL K H a (ns.map V.int) ∨ SqT K H a (ns.map V.int)) ∧ Fits ns ∧ Q (.int (gcdAll ns)) H
def spLIsIn (K : PySem.W.Frag) : Sp := fun vs H Q _ => ∃ (b a : Addr) (ps : List Nat) (ns : List Int) (n : Nat), vs = [.ref b, .ref a] ∧ SqT K H b ((zs ps).map V.int) ∧ (∀ p ∈ ps, 2 ≤ p ∧ p < 1000000) ∧ SqT K H a (ns.map V.int) ∧ ns.length ≤ 1000 ∧ Fits ns ∧ dotL ns ns = n ∧ 1 ≤ n ∧ n < 2 ^ 500 ∧
  ∀ H', Same H H' → Q (.bl (within ps n)) H'
section
variable {P : Program} {w : World} {K : PySem.W.Frag} {mg : Str → Option Value} {base : Heap}
theorem cal_law_common (T : Txt mg) (D : Def K mg "_law_common" s_law_common)  : Cal CX0 P w K mg base "_law_common" ["_law_first", "_law_second"] 2 (spLCommon) := by
  refine Cal.make D sc_law_common (fun _ _ _ _ _ _ us hl => match us, hl with | [_, _], _ => rfl) (fun vs H Q E h => ?_) (fun f cdv A outer s H vs Q E hr h => ?_)
  · obtain ⟨a, b, rfl, _⟩ := h
    rfl
  refine ⟨_, PSs.nox (pss_cons (ps_for PassesOwn.never rfl (pi_range1 (by rfl) T.range (pa_cons pe_int pa_nil)) (pg_name (i := 2) sc_law_common.nd rfl (Or.inl rfl))
      (pss_cons (ps_if (pt_cmpR op_eq (pv 1) pe_int (nomark _)) (pss_one (ps_ret (pv 0))) pss_nil)
    (pss_one (ps_par (i := 0) (j := 1) (by rfl) sc_law_common.nd rfl rfl (by decide) rfl rfl (pa_cons (pv 1) (pa_cons (pe_op op_mod (pe_callTy call_int1 (by rfl) T.int (by decide +kernel) (pa_cons (pv 0) pa_nil)) (pv 1)) pa_nil)) (by rfl)))))
    (pss_one (ps_ret (pv 0)))), ?_⟩
  obtain ⟨a, b, rfl, ha, hb, hq⟩ := h
  refine ⟨1500, rfl, by decide, by decide, for_range (lo := 0) (n := 1500) (fun i σ H' => ∃ (x y : Nat) (z : Option V), σ = [some (.int x), some (.int y), z] ∧ H' = H ∧ Laps a b i x y) ⟨a, b, none, rfl, rfl, Laps.start a b⟩ ?_ ?_⟩
  · rintro i σ H' hi ⟨x, y, z, rfl, rfl, L⟩
    refine ⟨_, rfl, rfl, _, rfl, ?_⟩
    by_cases hy : y = 0
    · refine ifT (eqI (by rw [hy] <;> rfl)) ⟨_, rfl, ?_⟩
      rw [L.done hy]
      exact hq
    · refine ifF (eqI0 (by omega)) ?_
      refine ⟨_, rfl, _, rfl, .inl ⟨_, rfl, _, rfl, _, _, rfl, rfl, by omega, _, _, rfl, y, x % y, _, rfl, rfl, L.step hy⟩⟩
  · rintro σ H' ⟨x, y, z, rfl, rfl, L⟩
    refine ⟨_, rfl, ?_⟩
    have : a * b < 2 ^ 1499 := by
      have : a * b ≤ 2 ^ 700 * 2 ^ 700 := Nat.mul_le_mul (by omega) (by omega)
      refine Nat.lt_of_le_of_lt this ?_
      rw [← Nat.pow_add]
      exact Nat.pow_lt_pow_right (by decide) (by decide)
    rw [L.done (L.last this)]
    exact hq

theorem cal_law_common_of (T : Txt mg) (D : Def K mg "_law_common_of" s_law_common_of) (c_law_common : Cal CX0 P w K mg base "_law_common" ["_law_first", "_law_second"] 2 (spLCommon)) : Cal CX0 P w K mg base "_law_common_of" ["_law_entries"] 4 (spLCommonOf K) := by
  obtain ⟨f_law_common, fd_law_common, m_law_common, k_law_common, b_law_common, G_law_common⟩ := c_law_common
  refine Cal.make D sc_law_common_of (fun _ _ _ _ _ _ us hl => match us, hl with | [_], _ => rfl) (fun vs H Q E h => ?_) (fun f cdv A outer s H vs Q E hr h => ?_)
  · obtain ⟨a, ns, rfl, _⟩ := h
    rfl
  refine ⟨_, PSs.nox (pss_cons (ps_set (i := 1) sc_law_common_of.nd rfl (Or.inl rfl) pe_int)
    (pss_cons (ps_for PassesOwn.never rfl (pi_or (pi_list (pv 0)) (pi_tup (pv 0))) (pg_name (i := 2) sc_law_common_of.nd rfl (Or.inl rfl))
      (pss_one (ps_set (i := 1) sc_law_common_of.nd rfl (Or.inl rfl) (pe_call G_law_common (hr.mono (by decide)) rfl m_law_common k_law_common b_law_common .nil pass0 (pa_cons (pv 1) (pa_cons (pe_callB call_abs (by rfl) T.abs (by decide +kernel) (pa_cons (pv 2) pa_nil)) pa_nil))))))
    (pss_one (ps_ret (pv 1))))), ?_⟩
  obtain ⟨a, ns, rfl, hS, hf, hq⟩ := h
  have turn : ∀ (i : Nat) (z : Int), ns[i]? = some z → Nat.gcd (gcdAll (ns.take i)) z.natAbs = gcdAll (ns.take (i + 1)) := fun i z hz => by rw [take_next hz, gcdAll_snoc]
  have bound : ∀ i, gcdAll (ns.take i) < 2 ^ 700 := fun i => Nat.lt_trans (gcdAll_lt _ (hf.take i)) (by exact Nat.pow_lt_pow_right (by decide) (by decide))
  have bn : ∀ (i : Nat) (z : Int), ns[i]? = some z → z.natAbs < 2 ^ 700 := fun i z hz => Nat.lt_trans (hf z (List.mem_of_getElem? hz)) (by exact Nat.pow_lt_pow_right (by decide) (by decide))
  rcases hS with hS | hS
  · refine .inl ⟨_, rfl, a, rfl, ⟨_, hS⟩, for_list (K := K) (a := a) (xs := ns.map V.int) (fun i σ H' => ∃ y : Option V, σ = [some (.ref a), some (.int (gcdAll (ns.take i))), y] ∧ H' = H) ⟨none, rfl, rfl⟩ (fun i σ H' _ z => ?_) ?_ ?_⟩
    · obtain ⟨_, _, rfl⟩ := z
      exact hS
    · rintro i y σ H' hi ⟨y0, rfl, rfl⟩
      obtain ⟨z, hz, rfl⟩ := get_int hi
      refine ⟨_, rfl, _, rfl, _, rfl, gcdAll (ns.take i), z.natAbs, ?_, bound i, bn i z hz, ?_⟩
      · show [V.int (gcdAll (ns.take i)), V.int (if z < 0 then -z else z)] = _
        rw [show (if z < 0 then -z else z) = (z.natAbs : Int) by split <;> omega]
      · refine ⟨some (.int z), ?_, rfl⟩
        rw [← turn i z hz]
        rfl
    · rintro σ H' ⟨y, rfl, rfl⟩
      rw [List.length_map, List.take_length]
      exact ⟨_, rfl, hq⟩
  · refine .inr ⟨_, rfl, a, rfl, ⟨_, hS⟩, for_tup (K := K) (a := a) (xs := ns.map V.int) (fun i σ H' => ∃ y : Option V, σ = [some (.ref a), some (.int (gcdAll (ns.take i))), y] ∧ H' = H) ⟨none, rfl, rfl⟩ (fun i σ H' _ z => ?_) ?_ ?_⟩
    · obtain ⟨_, _, rfl⟩ := z
      exact hS
    · rintro i y σ H' hi ⟨y0, rfl, rfl⟩
      obtain ⟨z, hz, rfl⟩ := get_int hi
      refine ⟨_, rfl, _, rfl, _, rfl, gcdAll (ns.take i), z.natAbs, ?_, bound i, bn i z hz, ?_⟩
      · show [V.int (gcdAll (ns.take i)), V.int (if z < 0 then -z else z)] = _
        rw [show (if z < 0 then -z else z) = (z.natAbs : Int) by split <;> omega]
      · refine ⟨some (.int z), ?_, rfl⟩
        rw [← turn i z hz]
        rfl
    · rintro σ H' ⟨y, rfl, rfl⟩
      rw [List.length_map, List.take_length]
      exact ⟨_, rfl, hq⟩

theorem cal_law_dot (T : Txt mg) (D : Def K mg "_law_dot" s_law_dot)  : Cal CX0 P w K mg base "_law_dot" ["_law_first", "_law_second"] 2 (spDot K) := by
  refine Cal.make D sc_law_dot (fun _ _ _ _ _ _ us hl => match us, hl with | [_, _], _ => rfl) (fun vs H Q E h => ?_) (fun f cdv A outer s H vs Q E hr h => ?_)
  · obtain ⟨a, b, ns, ms, rfl, _⟩ := h
    rfl
  refine ⟨_, PSs.nox (pss_one (ps_ret (pe_callB (cr_sum rfl) (by rfl) T.sum (by decide +kernel) (pa_cons (pe_lc (own := [("_law_a", 2), ("_law_b", 3)]) (g := (gTup K 2 (gCons (gName 2) (gCons (gName 3) gNil)))) rfl sc_law_dot.nd (RZ.pi_zipA (by rfl) T.zip (pa_cons (pv 0) (pa_cons (pv 1) pa_nil))) (blkOk_by (N := n_law_dot) (sc := defScope s_law_dot) (by decide +kernel)) (by exact (fun _ _ _ _ _ => (pg_tup rfl (pgs_cons (pg_name (i := 2) sc_law_dot.nd rfl (Or.inl rfl)) (pgs_cons (pg_name (i := 3) sc_law_dot.nd rfl (Or.inl rfl)) pgs_nil))))) (fun _ _ _ _ _ => pts_nil) (fun _ _ _ _ _ => (pe_op op_mulW (pv 2) (pv 3)))) pa_nil)))), ?_⟩
  obtain ⟨a, b, ns, ms, rfl, hA, hB, hl, hn, fa, fb, hq⟩ := h
  refine ⟨_, rfl, _, rfl, a, b, ns.map V.int, ms.map V.int, rfl, .inr ⟨hA, hB, ?_⟩⟩
  intro D hD
  refine lc_it (walk_zipT (K := K) (a := a) (b := b) (n := ns.length) (by rw [List.length_map, List.length_map]; omega)) (LcP H D fun i => ((prods ns ms).take i).map V.int) (LcP.start hD rfl) (fun i H1 _ p => ⟨same_t p.1 hA, same_t p.1 hB⟩) ?_ ?_
  · rintro i v H1 H2 hi p ⟨T1, x, y, rfl, nT, rfl, hx, hy⟩
    obtain ⟨x, h1x, rfl⟩ := get_int hx
    obtain ⟨y, h1y, rfl⟩ := get_int hy
    refine ⟨T1, _, rfl, tup_at, rfl, _, _, rfl, _, _, rfl, rfl, rfl, ?_⟩
    refine ⟨_, rfl, _, rfl, x, y, rfl, rfl, wide_mul (fa x (List.mem_of_getElem? h1x)) (fb y (List.mem_of_getElem? h1y)) (by decide) (by decide) (by decide), ?_⟩
    exact p.yes hD (same_new nT) (map_take_next (prods_get h1x h1y)) (Nat.lt_of_le_of_lt (map_take_len _ _ _) (by rw [prods_len]; omega))
  · intro H1 p
    refine ⟨D, prods ns ms, rfl, ?_, ?_⟩
    · exact .of (p.at_ (congrArg (List.map V.int) (List.take_of_length_le (by rw [prods_len]; omega))))
    · rw [prods_sum]
      exact hq H1 p.1

theorem cal_law_is_in (T : Txt mg) (D : Def K mg "_law_is_in" s_law_is_in) (c_law_dot : Cal CX0 P w K mg base "_law_dot" ["_law_first", "_law_second"] 2 (spDot K)) : Cal CX0 P w K mg base "_law_is_in" ["_law_base", "_law_beam"] 4 (spLIsIn K) := by
  obtain ⟨f_law_dot, fd_law_dot, m_law_dot, k_law_dot, b_law_dot, G_law_dot⟩ := c_law_dot
  refine Cal.make D sc_law_is_in (fun _ _ _ _ _ _ us hl => match us, hl with | [_, _], _ => rfl) (fun vs H Q E h => ?_) (fun f cdv A outer s H vs Q E hr h => ?_)
  · obtain ⟨b, a, ps, ns, n, rfl, _⟩ := h
    rfl
  refine ⟨_, PSs.nox (pss_cons (ps_set (i := 2) sc_law_is_in.nd rfl (Or.inl rfl) (pe_call G_law_dot (hr.mono (by decide)) rfl m_law_dot k_law_dot b_law_dot .nil pass0 (pa_cons (pv 1) (pa_cons (pv 1) pa_nil))))
    (pss_cons (ps_for PassesOwn.never rfl (pi_tup (pv 0)) (pg_name (i := 3) sc_law_is_in.nd rfl (Or.inl rfl))
      (pss_one (ps_for PassesOwn.never rfl (pi_range1 (by rfl) T.range (pa_cons pe_int pa_nil)) (pg_name (i := 4) sc_law_is_in.nd rfl (Or.inl rfl))
      (pss_cons (ps_if (pt_cmpR op_ne (pe_op op_mod (pe_callTy call_int1 (by rfl) T.int (by decide +kernel) (pa_cons (pv 2) pa_nil)) (pv 3)) pe_int (nomark _)) (pss_one ps_break) pss_nil)
    (pss_one (ps_set (i := 2) sc_law_is_in.nd rfl (Or.inl rfl) (pe_op op_fdivW (pv 2) (pv 3))))))))
    (pss_one (ps_ret (pe_cmpR op_eq (pv 2) pe_int (nomark _)))))), ?_⟩
  obtain ⟨b, a, ps, ns, n, rfl, hB, hp, hA, hn, hf, he, h1, h9, hq⟩ := h
  refine ⟨_, rfl, _, rfl, a, a, ns, ns, rfl, hA, hA, rfl, hn, hf, hf, fun H1 s1 => ?_⟩
  rw [he]
  refine ⟨_, rfl, b, rfl, ⟨_, same_t s1 hB⟩, for_tup (K := K) (a := b) (xs := (zs ps).map V.int) (fun i σ H' => ∃ y z : Option V, σ = [some (.ref b), some (.ref a), some (.int ((ps.take i).foldl strip n : Nat)), y, z] ∧ Same H H') ⟨none, none, rfl, s1⟩ (fun i σ H' _ z => ?_) ?_ ?_⟩
  · obtain ⟨_, _, _, z⟩ := z
    exact same_t z hB
  · rintro i y σ H2 hi ⟨y0, z0, rfl, s2⟩
    obtain ⟨p, hz, rfl⟩ := get_zs hi
    have p2 := (hp p (List.mem_of_getElem? hz)).1
    have p9 := (hp p (List.mem_of_getElem? hz)).2
    have f1 : 1 ≤ (ps.take i).foldl strip n := fold_pos _ _ (fun q hq => (hp q (List.mem_of_mem_take hq)).1) h1
    refine ⟨500, rfl, by decide, by decide, for_range (lo := 0) (n := 500) (fun j σ' H' => ∃ (m : Nat) (z : Option V), σ' = [some (.ref b), some (.ref a), some (.int m), some (.int p), z] ∧ H' = H2 ∧ 1 ≤ m ∧ m < 2 ^ (500 - j) ∧ strip m p = (ps.take (i + 1)).foldl strip n) ⟨_, z0, rfl, rfl, f1, ?_, by rw [fold_next hz]⟩ ?_ ?_⟩
    · exact Nat.lt_of_le_of_lt (fold_le _ _ (fun q hq => (hp q (List.mem_of_mem_take hq)).1) h1) h9
    · rintro j σ' H' hj ⟨m, z1, rfl, rfl, m1, m9, hm⟩
      refine ⟨_, rfl, .inl ⟨_, rfl, _, rfl, _, _, rfl, rfl, by omega, rfl, _, rfl, ?_⟩⟩
      by_cases hd : m % p = 0
      · refine ifF (neI0 (by rw [← Int.natCast_emod, hd] <;> rfl)) ?_
        refine ⟨_, rfl, _, rfl, _, _, rfl, rfl, wide_div (b := 20) (by omega) (by omega) (by decide) (by decide), ?_⟩
        refine ⟨m / p, some (.int (0 + (j : Nat))), ?_, rfl, ?_, ?_, ?_⟩
        · rw [Int.natCast_ediv]
          rfl
        · exact Nat.div_pos (Nat.le_of_dvd (by omega) (Nat.dvd_of_mod_eq_zero hd)) (by omega)
        · have e : 500 - j = (500 - (j + 1)) + 1 := by omega
          rw [e, Nat.pow_succ] at m9
          refine Nat.lt_of_le_of_lt (Nat.div_le_div_left p2 (by decide)) ?_
          exact Nat.div_lt_of_lt_mul (by omega)
        · rw [← strip_yes p2 m1 hd]
          exact hm
      · refine ifT (neI (by rw [← Int.natCast_emod]; omega)) ?_
        rw [strip_no m1 hd] at hm
        rw [hm]
        exact ⟨_, _, rfl, s2⟩
    · rintro σ' H' ⟨m, z1, rfl, rfl, m1, m9, hm⟩
      have : m < 1 := m9
      omega
  · rintro σ H2 ⟨y, z, rfl, s2⟩
    rw [List.length_map, zs_len, List.take_length]
    refine ⟨_, rfl, rfl, ?_⟩
    rw [show decide (V.int ((ps.foldl strip n : Nat) : Int) = V.int 1) = within ps n from ?_]
    · exact hq H2 s2
    · unfold within
      by_cases z : ps.foldl strip n = 1
      · rw [decide_eq_true z, z]
        rfl
      · rw [decide_eq_false z]
        exact eqI0 (by omega)

end
end RM
namespace RM
open PySem PySem.Spec PyProof.Rows L2
theorem lapF_stay {p r : Nat} (h : ¬ r % p = 0) : ∀ f, lapF f p r = r
  | 0 => rfl
  | f + 1 => by
    show lapF f p (if r % p = 0 then r / p else r) = r
    rw [if_neg h]
    exact lapF_stay h f
section
variable {P : Program} {w : World} {K : PySem.W.Frag} {mg : Str → Option Value} {base : Heap}
theorem cal_law_primes (T : Txt mg) (D : Def K mg "_law_primes" s_law_primes)  : Cal CX0 P w K mg base "_law_primes" ["_law_number"] 2 (spPrimesBy K) := by
  refine Cal.make D sc_law_primes (fun _ _ _ _ _ _ us hl => match us, hl with | [_], _ => rfl) (fun vs H Q E h => ?_) (fun f cdv A outer s H vs Q E hr h => ?_)
  · obtain ⟨n, rfl, _⟩ := h
    rfl
  refine ⟨_, PSs.nox (pss_cons (ps_par (i := 2) (j := 3) (by rfl) sc_law_primes.nd rfl rfl (by decide) rfl rfl (pa_cons (pe_lst pa_nil) (pa_cons (pv 0) pa_nil)) (by rfl))
    (pss_cons (ps_for PassesOwn.never rfl (pi_range2 (by rfl) T.range (pa_cons pe_int (pa_cons pe_int pa_nil))) (pg_name (i := 1) sc_law_primes.nd rfl (Or.inl rfl))
      (pss_one (ps_if (pt_cmpR op_eq (pe_op op_mod (pe_callTy call_int1 (by rfl) T.int (by decide +kernel) (pa_cons (pv 3) pa_nil)) (pv 1)) pe_int (nomark _)) (pss_cons (ps_expr (pe_bm PySem.F.plainAttrs_list PySem.F.slot_list_append PySem.F.type_list_append mt_append (pv 2) (pa_cons (pv 1) pa_nil)))
    (pss_one (ps_for PassesOwn.never rfl (pi_range1 (by rfl) T.range (pa_cons pe_int pa_nil)) (pg_name (i := 4) sc_law_primes.nd rfl (Or.inl rfl))
      (pss_one (ps_if (pt_cmpR op_eq (pe_op op_mod (pe_callTy call_int1 (by rfl) T.int (by decide +kernel) (pa_cons (pv 3) pa_nil)) (pv 1)) pe_int (nomark _)) (pss_one (ps_set (i := 3) sc_law_primes.nd rfl (Or.inl rfl) (pe_op op_fdivW (pv 3) (pv 1)))) pss_nil))))) pss_nil)))
    (pss_one (ps_ret (pe_ifExp (pt_cmpR op_gt (pv 3) pe_int (nomark _)) (pe_callTy call_tuple_of (by rfl) T.tuple (by decide +kernel) (pa_cons (pe_op op_cat (pv 2) (pe_lst (pa_cons (pv 3) pa_nil))) pa_nil)) (pe_callTy call_tuple_of (by rfl) T.tuple (by decide +kernel) (pa_cons (pv 2) pa_nil))))))), ?_⟩
  obtain ⟨n, rfl, n1, n9, hq⟩ := h
  refine ⟨by decide, fun l nl => ?_⟩
  refine ⟨_, rfl, _, _, rfl, ?_⟩
  refine ⟨2, 1100, rfl, by decide, for_range (lo := 2) (n := 1098) (fun i σ H' => ∃ (found : List Nat) (rest : Nat) (y z : Option V), σ = [some (.int n), y, some (.ref l), some (.int rest), z] ∧ Same H H' ∧ H' l = some (.lst ((zs found).map V.int)) ∧ TD n (i + 2) found rest)
    ⟨[], n, none, none, rfl, same_new nl, upd_same, TD.start n1⟩ ?_ ?_⟩
  · rintro i σ H' hi ⟨found, rest, y, z, rfl, sm, hl, td⟩
    have e2 : (2 : Int) + (i : Nat) = ((i + 2 : Nat) : Int) := by omega
    rw [e2]
    generalize ep : i + 2 = p at *
    have p2 : 2 ≤ p := by omega
    have rle : rest ≤ n := Nat.le_of_dvd (by omega) td.rn
    have flen := td_len td
    refine ⟨_, rfl, .inl ⟨_, rfl, _, rfl, _, _, rfl, rfl, by omega, rfl, _, rfl, ?_⟩⟩
    by_cases hd : rest % p = 0
    · refine ifT (eqI (by rw [← Int.natCast_emod, hd] <;> rfl)) ?_
      have hdv := Nat.dvd_of_mod_eq_zero hd
      have pp := td.prime p2 hdv
      refine ⟨_, rfl, .inl ⟨rfl, _, .of hl⟩, _, rfl, l, _, _, rfl, rfl, hl, Nat.lt_of_le_of_lt (show _ ≤ 3000 by rw [List.length_map, zs_len]; omega) (by decide), ?_⟩
      have hl2 : ∀ H2, upd H' l (.lst ((zs found).map V.int ++ [.int p])) = H2 → H2 l = some (.lst ((zs (found ++ [p])).map V.int)) := fun H2 e => by
        rw [← e, upd_same, zs_app, List.map_append]
        rfl
      generalize eH : upd H' l (.lst ((zs found).map V.int ++ [.int p])) = H2
      have hl2 := hl2 H2 eH
      have sm2 : Same H H2 := by
        rw [← eH]
        exact same_put sm nl
      refine ⟨60, rfl, by decide, by decide, for_range (lo := 0) (n := 60) (fun j σ' H'' => ∃ (k : Nat) (z : Option V), σ' = [some (.int n), some (.int p), some (.ref l), some (.int k), z] ∧ H'' = H2 ∧ Out p rest k ∧ lapF (60 - j) p k = strip rest p) ⟨rest, z, rfl, rfl, Out.start td.r1, strip_laps p2 60 rest td.r1 (by omega)⟩ ?_ ?_⟩
      · rintro j σ' H'' hj ⟨k, z1, rfl, rfl, ok, hk9⟩
        have k1 := ok.r1
        have ej : 60 - j = (60 - (j + 1)) + 1 := by omega
        refine ⟨_, rfl, .inl ⟨_, rfl, _, rfl, _, _, rfl, rfl, by omega, rfl, _, rfl, ?_⟩⟩
        by_cases hk : k % p = 0
        · refine ifT (eqI (by rw [← Int.natCast_emod, hk] <;> rfl)) ?_
          refine ⟨_, rfl, _, rfl, _, _, rfl, rfl, wide_div (b := 20) (by omega) (by omega) (by decide) (by decide), ?_⟩
          refine ⟨k / p, some (.int (0 + (j : Nat))), ?_, rfl, ok.step pp (Nat.dvd_of_mod_eq_zero hk), ?_⟩
          · rw [Int.natCast_ediv]
            rfl
          · rw [← hk9, ej]
            show _ = lapF (60 - (j + 1)) p (if k % p = 0 then k / p else k)
            rw [if_pos hk]
        · refine ifF (eqI0 (by rw [← Int.natCast_emod]; omega)) ?_
          refine ⟨k, some (.int (0 + (j : Nat))), rfl, rfl, ok, ?_⟩
          rw [lapF_stay hk, ← hk9, lapF_stay hk]
      · rintro σ' H'' ⟨k, z1, rfl, rfl, ok, hk9⟩
        have hk9 : k = strip rest p := hk9
        have so := strip_out (r0 := rest) pp rest (Out.start td.r1)
        rw [← hk9] at so
        refine ⟨found ++ [p], k, _, _, rfl, sm2, hl2, ?_⟩
        have := td.take p2 hdv ok so.2
        rw [show i + 1 + 2 = p + 1 by omega]
        exact this
    · refine ifF (eqI0 (by rw [← Int.natCast_emod]; omega)) ?_
      refine ⟨found, rest, _, _, rfl, sm, hl, ?_⟩
      rw [show i + 1 + 2 = p + 1 by omega]
      exact td.skip p2 (fun z => hd (Nat.mod_eq_zero_of_dvd z))
  · rintro σ H' ⟨found, rest, y, z, rfl, sm, hl, td⟩
    have rle : rest ≤ n := Nat.le_of_dvd (by omega) td.rn
    have flen := td_len td
    have pd := td.done (show rest < _ by show rest < 1100 * 1100; omega)
    refine ⟨_, rfl, _, _, rfl, rfl, _, rfl, ?_⟩
    by_cases h1 : 1 < rest
    · rw [if_pos h1] at pd
      refine ifT (decide_eq_true (by omega)) ?_
      refine ⟨_, rfl, _, rfl, by show 1 ≤ sizeLine; decide, fun o no => ?_⟩
      refine ⟨l, o, _, _, rfl, rfl, by rw [upd_ne (ne_of_none hl no)]; exact hl, upd_same, ?_, fun q nq => ⟨q, _, rfl, .inl ⟨lst_at, fun t nt => ?_⟩⟩⟩
      · rw [List.length_map, zs_len]
        exact Nat.le_trans (show found.length + 1 ≤ 3000 by omega) (by decide)
      · refine hq _ t _ pd (by rw [List.length_append]; show found.length + 1 ≤ 2000; omega) ((same_add (same_add sm no) nq).trans (same_new nt)) ?_
        rw [upd_same, zs_app, List.map_append]
        rfl
    · rw [if_neg h1] at pd
      refine ifF (decide_eq_false (by omega)) ?_
      refine ⟨_, rfl, l, _, rfl, .inl ⟨.of hl, fun t nt => ?_⟩⟩
      exact hq _ t _ pd (by omega) (same_add sm nt) upd_same

end
end RM
namespace RM
open PySem PySem.Spec PyProof.Rows L2
/-! ### rays made of entries -/
def Nz (ns : List Int) : Prop := ∃ n ∈ ns, n ≠ 0
/-- no entry beyond B -/
def Bnd (B : Nat) (ns : List Int) : Prop := ∀ n ∈ ns, n.natAbs ≤ B
theorem gcd_fold_mul (g : Nat) : ∀ (ns : List Int) (ms : List Int) (a : Nat), ns.length = ms.length → (∀ (i : Nat) (x y : Int), ns[i]? = some x → ms[i]? = some y → x.natAbs = g * y.natAbs) →
    ns.foldl (fun a n => Nat.gcd a n.natAbs) (g * a) = g * ms.foldl (fun a n => Nat.gcd a n.natAbs) a
  | [], [], _, _, _ => rfl
  | [], _ :: _, _, h, _ => by simp at h
  | _ :: _, [], _, h, _ => by simp at h
  | n :: ns, m :: ms, a, hl, h => by
    have e := h 0 n m rfl rfl
    show ns.foldl _ (Nat.gcd (g * a) n.natAbs) = g * ms.foldl _ (Nat.gcd a m.natAbs)
    rw [e, Nat.gcd_mul_left]
    exact gcd_fold_mul g ns ms _ (Nat.succ.inj hl) fun i x y hx hy => h (i + 1) x y hx hy
theorem gcd_fold_dvd : ∀ (ns : List Int) (a : Nat), ns.foldl (fun a n => Nat.gcd a n.natAbs) a ∣ a ∧ ∀ n ∈ ns, ns.foldl (fun a n => Nat.gcd a n.natAbs) a ∣ n.natAbs
  | [], a => ⟨Nat.dvd_refl a, fun n hn => absurd hn (by simp)⟩
  | n :: ns, a => by
    obtain ⟨h1, h2⟩ := gcd_fold_dvd ns (Nat.gcd a n.natAbs)
    refine ⟨Nat.dvd_trans h1 (Nat.gcd_dvd_left ..), fun m hm => ?_⟩
    rcases List.mem_cons.mp hm with e | e
    · rw [e]
      exact Nat.dvd_trans h1 (Nat.gcd_dvd_right ..)
    · exact h2 m e
theorem gcdAll_dvd {ns : List Int} {n : Int} (h : n ∈ ns) : gcdAll ns ∣ n.natAbs := (gcd_fold_dvd ns 0).2 n h
theorem gcdAll_pos {ns : List Int} (h : Nz ns) : 1 ≤ gcdAll ns := by
  obtain ⟨n, hn, h0⟩ := h
  obtain ⟨k, e⟩ := gcdAll_dvd hn
  rcases Nat.eq_zero_or_pos (gcdAll ns) with z | z
  · rw [z, Nat.zero_mul] at e
    omega
  · exact z
/-- sign * n // g -/
def cutE (s : Int) (g : Nat) (n : Int) : Int := s * n / (g : Int)
theorem cutE_abs {s n : Int} {g : Nat} (hs : s.natAbs = 1) (h1 : 1 ≤ g) (hd : g ∣ n.natAbs) : n.natAbs = g * (cutE s g n).natAbs := by
  have d : (g : Int) ∣ s * n := by
    have : (g : Int) ∣ n := Int.ofNat_dvd_left.mpr hd
    exact Int.dvd_mul_of_dvd_right this
  have e := Int.mul_ediv_cancel' d
  have e2 := congrArg Int.natAbs e
  rw [Int.natAbs_mul, Int.natAbs_mul, hs, Nat.one_mul] at e2
  exact e2.symm
def signOf (ns : List Int) : Int := match ns.filter fun n => n != 0 with
  | z :: _ => if 0 < z then 1 else -1
  | [] => 1
def madeL (ns : List Int) : List Int := ns.map (cutE (signOf ns) (gcdAll ns))
theorem sign_abs (ns : List Int) : (signOf ns).natAbs = 1 := by
  unfold signOf
  split
  · split <;> rfl
  · rfl
theorem filter_map_zero {f : Int → Int} : ∀ ns : List Int, (∀ n ∈ ns, f n = 0 ↔ n = 0) → (ns.map f).filter (fun n => n != 0) = (ns.filter fun n => n != 0).map f
  | [], _ => rfl
  | n :: ns, h => by
    have ih := filter_map_zero ns fun m hm => h m (List.mem_cons_of_mem _ hm)
    have hn := h n List.mem_cons_self
    rw [List.map_cons]
    by_cases z : n = 0
    · rw [List.filter_cons_of_neg (by simp [hn.mpr z]), List.filter_cons_of_neg (by simp [z]), ih]
    · rw [List.filter_cons_of_pos (by simp [z, hn]), List.filter_cons_of_pos (by simp [z]), ih, List.map_cons]
theorem made_ok {ns : List Int} (h : Nz ns) : RayOk (madeL ns) := by
  have h1 := gcdAll_pos h
  have key : ∀ n ∈ ns, n.natAbs = gcdAll ns * (cutE (signOf ns) (gcdAll ns) n).natAbs := fun n hn => cutE_abs (sign_abs ns) h1 (gcdAll_dvd hn)
  have zero : ∀ n ∈ ns, cutE (signOf ns) (gcdAll ns) n = 0 ↔ n = 0 := fun n hn => by
    have e := key n hn
    constructor
    · intro z
      rw [z, Int.natAbs_zero, Nat.mul_zero] at e
      omega
    · intro z
      rw [show n.natAbs = 0 by omega] at e
      rcases Nat.mul_eq_zero.mp e.symm with y | y
      · omega
      · exact Int.natAbs_eq_zero.mp y
  constructor
  · show ∃ z r, (ns.map _).filter (fun n => n != 0) = z :: r ∧ 0 < z
    rw [filter_map_zero ns zero]
    cases e : ns.filter fun n => n != 0 with
    | nil =>
      obtain ⟨n, hn, h0⟩ := h
      have : n ∈ ns.filter fun n => n != 0 := List.mem_filter.mpr ⟨hn, by simp [h0]⟩
      rw [e] at this
      simp at this
    | cons z r =>
      refine ⟨_, _, List.map_cons, ?_⟩
      have hz : z ∈ ns.filter fun n => n != 0 := by rw [e]; exact List.mem_cons_self
      obtain ⟨hz, z0⟩ := List.mem_filter.mp hz
      have z0 : z ≠ 0 := by simpa using z0
      have ne : cutE (signOf ns) (gcdAll ns) z ≠ 0 := fun y => z0 ((zero z hz).mp y)
      have nn : 0 ≤ cutE (signOf ns) (gcdAll ns) z := by
        refine Int.ediv_nonneg ?_ (by omega)
        have es : signOf ns = if 0 < z then 1 else -1 := by
          unfold signOf
          rw [e]
        rw [es]
        split <;> omega
      omega
  · have e := gcd_fold_mul (gcdAll ns) ns (madeL ns) 0 (List.length_map ..).symm fun i x y hx hy => by
      have hm := List.mem_of_getElem? hx
      have : (madeL ns)[i]? = some (cutE (signOf ns) (gcdAll ns) x) := by
        show (ns.map _)[i]? = _
        rw [List.getElem?_map, hx]
        rfl
      rw [this] at hy
      rw [← Option.some.inj hy]
      exact key x hm
    rw [Nat.mul_zero] at e
    have e : gcdAll ns = gcdAll ns * gcdAll (madeL ns) := e
    have : gcdAll ns * gcdAll (madeL ns) = gcdAll ns * 1 := by rw [Nat.mul_one]; exact e.symm
    exact Nat.eq_of_mul_eq_mul_left (by omega) this
theorem made_bnd {ns : List Int} {B : Nat} (h : Nz ns) (hb : Bnd B ns) : Bnd B (madeL ns) := by
  intro m hm
  obtain ⟨n, hn, rfl⟩ := List.mem_map.mp hm
  have e := cutE_abs (sign_abs ns) (gcdAll_pos h) (gcdAll_dvd hn)
  have h1 := gcdAll_pos h
  have : 1 * (cutE (signOf ns) (gcdAll ns) n).natAbs ≤ gcdAll ns * (cutE (signOf ns) (gcdAll ns) n).natAbs := Nat.mul_le_mul_right _ h1
  have := hb n hn
  omega
theorem Fits.of_bnd {ns : List Int} {B : Nat} (h : Bnd B ns) (hB : B < 2 ^ 200) : Fits ns := fun n hn => Nat.lt_of_le_of_lt (h n hn) hB
theorem dot_le {B : Nat} : ∀ ns : List Int, Bnd B ns → dotL ns ns ≤ (ns.length * (B * B) : Nat)
  | [], _ => by
    show (0 : Int) ≤ _
    omega
  | n :: ns, h => by
    have ih := dot_le ns fun m hm => h m (List.mem_cons_of_mem _ hm)
    have hn := h n List.mem_cons_self
    have e : n * n = ((n.natAbs * n.natAbs : Nat) : Int) := by
      rw [← Int.natAbs_mul]
      have : 0 ≤ n * n := by
        rcases Int.le_total 0 n with z | z
        · exact Int.mul_nonneg z z
        · exact Int.mul_nonneg_of_nonpos_of_nonpos z z
      omega
    have l : n.natAbs * n.natAbs ≤ B * B := Nat.mul_le_mul hn hn
    show n * n + dotL ns ns ≤ _
    rw [e]
    have q : (n :: ns).length * (B * B) = ns.length * (B * B) + B * B := by
      rw [List.length_cons, Nat.add_mul, Nat.one_mul]
    rw [q]
    omega
theorem lenN_le {ns : List Int} {B : Nat} (h : Bnd B ns) : lenN ns ≤ ns.length * (B * B) := by
  have := dot_le ns h
  unfold lenN
  omega
theorem lenN_pos {ns : List Int} (h : RayOk ns) : 1 ≤ lenN ns := by
  obtain ⟨z, r, e, z0⟩ := h.first
  have hz : z ∈ ns := (List.mem_filter.mp (show z ∈ ns.filter fun n => n != 0 by rw [e]; exact List.mem_cons_self)).1
  have key : ∀ ns : List Int, z ∈ ns → 1 ≤ dotL ns ns := by
    intro ns
    induction ns with
    | nil => intro h; simp at h
    | cons n ns ih =>
      intro h
      show 1 ≤ n * n + dotL ns ns
      have p := dot_pos ns
      rcases List.mem_cons.mp h with y | y
      · rw [← y]
        have : 1 * 1 ≤ z * z := Int.mul_le_mul (by omega) (by omega) (by omega) (by omega)
        omega
      · have := ih y
        have : 0 ≤ n * n := by
          rcases Int.le_total 0 n with z | z
          · exact Int.mul_nonneg z z
          · exact Int.mul_nonneg_of_nonpos_of_nonpos z z
        omega
  have := key ns hz
  unfold lenN
  omega
/-! ### constant tuples -/
/-- a display of ints -/
def DisI (t : TA) (ns : List Int) : Prop := ∀ σ H Q, Q (ns.map V.int) H → t σ H Q
theorem DisI.nil : DisI tNil [] := fun _ _ _ h => h
theorem DisI.pos {t : TA} {i : Int} {ns : List Int} (h : DisI t ns) : DisI (tCons (tC (.int i)) t) (i :: ns) := fun σ H _ q => h σ H _ q
theorem DisI.neg {t : TA} {i : Int} {ns : List Int} (h : DisI t ns) : DisI (tCons (tUn (rU fun i => .int (-i)) (tC (.int i))) t) (-i :: ns) := fun σ H _ q => ⟨i, rfl, h σ H _ q⟩
/-- a display of tuples of ints -/
def DisT (K : PySem.W.Frag) (t : TA) (rs : List (List Int)) : Prop := ∀ σ H Q, (∀ vs H', Same H H' → RaysAt K H' vs rs → Q vs H') → t σ H Q
theorem DisT.nil {K : PySem.W.Frag} : DisT K tNil [] := fun _ H _ q => q [] H (Same.refl H) ⟨rfl, fun i v h => by simp at h⟩
theorem DisT.cons {K : PySem.W.Frag} {t1 t : TA} {ns : List Int} {rs : List (List Int)} (h1 : DisI t1 ns) (hn : ns.length ≤ 1000) (h : DisT K t rs) : DisT K (tCons (tTup t1) t) (ns :: rs) := fun σ H Q q =>
  h1 σ H _ ⟨by rw [List.length_map, sizeLine_eq]; omega, fun p np => h σ _ _ fun vs H' s r => q _ H' ((same_new np).trans s) ⟨congrArg Nat.succ r.1, fun i v hv => by
    cases i with
    | zero => exact ⟨ns, p, rfl, (Option.some.inj hv).symm, .of (s _ _ upd_same)⟩
    | succ i => exact r.2 i v hv⟩⟩
theorem RaysAt.append {K : PySem.W.Frag} {H : Hp} {vs us : List V} {rs qs : List (List Int)} (a : RaysAt K H vs rs) (b : RaysAt K H us qs) : RaysAt K H (vs ++ us) (rs ++ qs) := by
  refine ⟨by rw [List.length_append, List.length_append, a.1, b.1], fun i v hv => ?_⟩
  by_cases h : i < vs.length
  · rw [List.getElem?_append_left h] at hv
    rw [List.getElem?_append_left (by rw [← a.1]; exact h)]
    exact a.2 i v hv
  · rw [List.getElem?_append_right (by omega)] at hv
    rw [List.getElem?_append_right (by rw [← a.1]; omega), ← a.1]
    exact b.2 _ v hv
/-- references to tuples of ints, each as G says -/
def TupsAt (K : PySem.W.Frag) (H : Hp) (vs : List V) (G : List Int → Prop) : Prop := ∀ v ∈ vs, ∃ a ns, v = V.ref a ∧ SqT K H a (ns.map V.int) ∧ G ns
theorem TupsAt.same {K : PySem.W.Frag} {H H' : Hp} {vs : List V} {G : List Int → Prop} (h : TupsAt K H vs G) (s : Same H H') : TupsAt K H' vs G := fun v hv => by
  obtain ⟨a, ns, e, h1, h2⟩ := h v hv
  exact ⟨a, ns, e, same_t s h1, h2⟩
theorem TupsAt.exd {K : PySem.W.Frag} {H H' : Hp} {vs : List V} {G : List Int → Prop} (h : TupsAt K H vs G) (s : ExD H H') : TupsAt K H' vs G := fun v hv => by
  obtain ⟨a, ns, e, h1, h2⟩ := h v hv
  exact ⟨a, ns, e, s.t h1, h2⟩
theorem TupsAt.nil {K : PySem.W.Frag} {H : Hp} {G : List Int → Prop} : TupsAt K H [] G := fun v hv => absurd hv (by simp)
theorem TupsAt.app {K : PySem.W.Frag} {H : Hp} {vs us : List V} {G : List Int → Prop} (a : TupsAt K H vs G) (b : TupsAt K H us G) : TupsAt K H (vs ++ us) G := fun v hv => (List.mem_append.mp hv).elim (a v) (b v)
theorem TupsAt.sub {K : PySem.W.Frag} {H : Hp} {vs us : List V} {G : List Int → Prop} (a : TupsAt K H vs G) (h : ∀ v ∈ us, v ∈ vs) : TupsAt K H us G := fun v hv => a v (h v hv)
theorem TupsAt.imp {K : PySem.W.Frag} {H : Hp} {vs : List V} {G G' : List Int → Prop} (a : TupsAt K H vs G) (h : ∀ ns, G ns → G' ns) : TupsAt K H vs G' := fun v hv => by
  obtain ⟨b, ns, e, h1, h2⟩ := a v hv
  exact ⟨b, ns, e, h1, h ns h2⟩
theorem TupsAt.of_rays {K : PySem.W.Frag} {H : Hp} {vs : List V} {rs : List (List Int)} {G : List Int → Prop} (h : RaysAt K H vs rs) (g : ∀ r ∈ rs, G r) : TupsAt K H vs G := fun v hv => by
  obtain ⟨i, hi⟩ := List.getElem?_of_mem hv
  obtain ⟨r, a, h1, h2, h3⟩ := h.2 i v hi
  exact ⟨a, r, h2, h3, g r (List.mem_of_getElem? h1)⟩
def spPick (K : PySem.W.Frag) : Sp := fun vs H Q _ => ∃ (c d l : Addr) (ns : List Int), vs = [.ref d, .ref l] ∧ SprAt H c d ∧ H l = some (.lst (ns.map V.int)) ∧ ns ≠ [] ∧ ns.length < 1000 ∧
  ∀ n H', n ∈ ns → SprAt H' c d → ExD H H' → Q (.int n) H'
def spIsBeam (K : PySem.W.Frag) : Sp := fun vs H Q _ => ∃ (a : Addr) (ns : List Int), vs = [.ref a, .int ns.length] ∧ SqT K H a (ns.map V.int) ∧ Fits ns ∧ ns.length ≤ 1000 ∧ ∀ k H', Same H H' → (k = true → Nz ns) → Q (.bl k) H'
def spMade (K : PySem.W.Frag) : Sp := fun vs H Q _ => ∃ (a : Addr) (ns : List Int), vs = [.ref a] ∧ SqL K H a (ns.map V.int) ∧ Fits ns ∧ Nz ns ∧ ns.length ≤ 1000 ∧ ∀ p H', Same H H' → H' p = some (.tup ((madeL ns).map V.int)) → Q (.ref p) H'
section
variable {P : Program} {w : World} {K : PySem.W.Frag} {mg : Str → Option Value} {base : Heap}
theorem cal_law_pick (T : Txt mg) (D : Def K mg "_law_pick" s_law_pick) (c_law_dip : Cal CX0 P w K mg base "_law_dip" ["_law_spring_here", "_law_limit"] 2 (spDip)) : Cal CX0 P w K mg base "_law_pick" ["_law_spring_here", "_law_some"] 4 (spPick K) := by
  obtain ⟨f_law_dip, fd_law_dip, m_law_dip, k_law_dip, b_law_dip, G_law_dip⟩ := c_law_dip
  refine Cal.make D sc_law_pick (fun _ _ _ _ _ _ us hl => match us, hl with | [_, _], _ => rfl) (fun vs H Q E h => ?_) (fun f cdv A outer s H vs Q E hr h => ?_)
  · obtain ⟨c, d, l, ns, rfl, _⟩ := h
    rfl
  refine ⟨_, PSs.nox (pss_one (ps_ret (pe_ix ix_list (pv 1) (pe_call G_law_dip (hr.mono (by decide)) rfl m_law_dip k_law_dip b_law_dip .nil pass0 (pa_cons (pv 0) (pa_cons (pe_callB call_len_seq (by rfl) T.len PySem.boot_len (pa_cons (pv 1) pa_nil)) pa_nil))) (fun _ _ => rfl)))), ?_⟩
  obtain ⟨c, d, l, ns, rfl, hS, hl, h0, h9, hq⟩ := h
  have hp : 0 < ns.length := List.length_pos_iff.mpr h0
  refine ⟨_, rfl, _, rfl, _, rfl, l, _, rfl, .inl (.of hl), c, d, _, rfl, hS, by rw [List.length_map]; omega, by rw [List.length_map]; omega, fun n H1 n0 n1 s1 x1 => ?_⟩
  rw [List.length_map] at n1
  obtain ⟨j, rfl⟩ := Int.eq_ofNat_of_zero_le n0
  have hj : j < ns.length := by omega
  refine ⟨l, _, _, V.int ns[j], rfl, rfl, .of (x1.lst hl), ?_, hq _ _ (List.getElem_mem hj) s1 x1⟩
  exact atI_nat (j := j) (by rw [List.getElem?_map, List.getElem?_eq_getElem hj] <;> rfl)

theorem cal_law_is_whole (T : Txt mg) (D : Def K mg "_law_is_whole" s_law_is_whole)  : Cal CX0 P w K mg base "_law_is_whole" ["_law_item"] 2 (spIsInt) := by
  refine Cal.make D sc_law_is_whole (fun _ _ _ _ _ _ us hl => match us, hl with | [_], _ => rfl) (fun vs H Q E h => ?_) (fun f cdv A outer s H vs Q E hr h => ?_)
  · obtain ⟨i, rfl, _⟩ := h
    rfl
  refine ⟨_, PSs.nox (pss_one (ps_ret (pe_and (pe_callB call_isi (by rfl) T.isinstance (by decide +kernel) (pa_cons (pv 0) (pa_cons (pe_bltn (v := .ty "int") (by rfl) T.int (by decide +kernel) rfl) pa_nil))) (pe_one (pe_not (pe_callB call_isi (by rfl) T.isinstance (by decide +kernel) (pa_cons (pv 0) (pa_cons (pe_bltn (v := .ty "bool") (by rfl) T.bool (by decide +kernel) rfl) pa_nil)))))))), ?_⟩
  obtain ⟨i, rfl, hq⟩ := h
  refine ⟨_, rfl, _, _, _, _, _, rfl, .ty "int", .base (.int i), kit_int, true, rfl, iteT ?_⟩
  exact ⟨_, rfl, _, _, _, _, _, rfl, .ty "bool", .base (.int i), kit_int_bool, false, rfl, hq⟩

theorem cal_law_is_beam (T : Txt mg) (D : Def K mg "_law_is_beam" s_law_is_beam) (c_law_is_whole : Cal CX0 P w K mg base "_law_is_whole" ["_law_item"] 2 (spIsInt)) (c_law_common_of : Cal CX0 P w K mg base "_law_common_of" ["_law_entries"] 4 (spLCommonOf K)) : Cal CX0 P w K mg base "_law_is_beam" ["_law_item", "_law_wide"] 6 (spIsBeam K) := by
  obtain ⟨f_law_is_whole, fd_law_is_whole, m_law_is_whole, k_law_is_whole, b_law_is_whole, G_law_is_whole⟩ := c_law_is_whole
  obtain ⟨f_law_common_of, fd_law_common_of, m_law_common_of, k_law_common_of, b_law_common_of, G_law_common_of⟩ := c_law_common_of
  refine Cal.make D sc_law_is_beam (fun _ _ _ _ _ _ us hl => match us, hl with | [_, _], _ => rfl) (fun vs H Q E h => ?_) (fun f cdv A outer s H vs Q E hr h => ?_)
  · obtain ⟨a, ns, rfl, _⟩ := h
    rfl
  refine ⟨_, PSs.nox (pss_cons (ps_if (PW.pt (pw_or (pt_not (pt_val (pe_callB call_isi (by rfl) T.isinstance (by decide +kernel) (pa_cons (pv 0) (pa_cons (pe_bltn (v := .ty "tuple") (by rfl) T.tuple (by decide +kernel) rfl) pa_nil))))) (pw_or1 (pt_cmpR op_ne (pe_callB call_len_seq (by rfl) T.len PySem.boot_len (pa_cons (pv 0) pa_nil)) (pv 1) (nomark _))))) (pss_one (ps_ret pe_bl)) pss_nil)
    (pss_cons (ps_if (pt_cmpR (op_neE hr.units) (pe_lc (own := [("_law_part_here", 3)]) (g := (gName 3)) rfl sc_law_is_beam.nd (pi_tup (pv 0)) (blkOk_by (N := n_law_is_beam) (sc := defScope s_law_is_beam) (by decide +kernel)) (fun _ _ _ _ _ => (pg_name (i := 3) sc_law_is_beam.nd rfl (Or.inl rfl))) (fun _ _ _ _ _ => (pts_one (pt_not (pt_val (pe_call G_law_is_whole (hr.mono (by decide)) rfl m_law_is_whole k_law_is_whole b_law_is_whole .nil pass0 (pa_cons (pv 3) pa_nil)))))) (fun _ _ _ _ _ => (pv 3))) (pe_lst pa_nil) (nomark _)) (pss_one (ps_ret pe_bl)) pss_nil)
    (pss_cons (ps_setLc (i := 2) (own := [("_law_part_here", 3)]) (g := (gName 3)) (by rfl) sc_law_is_beam.nd rfl rfl (sw_true rfl rfl rfl (by decide +kernel)) (pi_tup (pv 0)) (blkOk_by (N := n_law_is_beam) (sc := defScope s_law_is_beam) (by decide +kernel)) (fun _ _ _ _ _ => (pg_name (i := 3) sc_law_is_beam.nd rfl (Or.inl rfl))) (fun _ _ _ _ _ => (pts_one (pt_cmpR op_ne (pv 3) pe_int (nomark _)))) (fun _ _ _ _ _ => (pv 3)))
    (pss_one (ps_ret (pe_and (pe_cmpR (op_neE hr.units) (pv 2) (pe_lst pa_nil) (nomark _)) (pe_and (pe_cmpR op_gt (pe_ix ix_list (pv 2) pe_int (fun _ _ => rfl)) pe_int (nomark _)) (pe_one (pe_cmpR op_eq (pe_call G_law_common_of (hr.mono (by decide)) rfl m_law_common_of k_law_common_of b_law_common_of .nil pass0 (pa_cons (pv 0) pa_nil)) pe_int (nomark _)))))))))), ?_⟩
  obtain ⟨a, ns, rfl, hA, hf, hn, hq⟩ := h
  refine ⟨_, rfl, _, _, _, _, _, rfl, .ty "tuple", ty_tuple hA, kit_tuple, true, rfl, iteF ?_⟩
  refine ⟨_, rfl, a, _, rfl, .inr hA, _, rfl, rfl, _, rfl, ?_⟩
  refine ifF (neI0 (by rw [List.length_map])) ?_
  refine ⟨_, rfl, a, rfl, ⟨_, hA⟩, fun D hD => ?_⟩
  refine lc_tup (K := K) (a := a) (xs := ns.map V.int) (LcP H D fun _ => []) (LcP.start hD rfl) (fun i H1 _ p => same_t p.1 hA) ?_ ?_
  · intro i x H1 hi p
    obtain ⟨z, hz, rfl⟩ := get_int hi
    exact ⟨rfl, _, rfl, z, rfl, true, rfl, iteF (p.no (Same.refl _) rfl)⟩
  intro H1 p1
  refine ⟨Nat.zero_le _, fun e ne => ?_⟩
  have s2 : Same H (upd H1 e (.lst [])) := same_add p1.1 ne
  refine ⟨D, e, [], rfl, rfl, .of (by rw [upd_ne (ne_of_none p1.2 ne)]; exact p1.2), lst_at, fun v hv => absurd hv (by simp), _, rfl, iteF ?_⟩
  generalize upd H1 e (.lst []) = H2 at s2
  have hA2 := same_t s2 hA
  refine ⟨_, rfl, a, rfl, ⟨_, hA2⟩, fun D2 hD2 => ?_⟩
  refine lc_tup (K := K) (a := a) (xs := ns.map V.int) (LcP H2 D2 fun i => ((ns.take i).filter fun n => n != 0).map V.int) (LcP.start hD2 rfl) (fun i H3 _ p => same_t p.1 hA2) ?_ ?_
  · intro i x H3 hi p
    obtain ⟨y, hy, rfl⟩ := get_int hi
    refine ⟨rfl, _, rfl, rfl, _, rfl, ?_⟩
    by_cases h0 : y = 0
    · refine ifF (neI0 h0) ?_
      refine p.no (Same.refl _) ?_
      show ((ns.take (i + 1)).filter fun n => n != 0).map V.int = _
      rw [take_next hy, List.filter_append, h0]
      simp
    · refine ifT (neI h0) ⟨_, rfl, ?_⟩
      refine p.yes hD2 (Same.refl _) ?_ ?_
      · show ((ns.take (i + 1)).filter fun n => n != 0).map V.int = _
        rw [take_next hy, List.filter_append]
        simp [h0]
      · rw [List.length_map]
        have := List.length_filter_le (fun n : Int => n != 0) (ns.take i)
        have := List.length_take_le i ns
        rw [List.length_take] at *
        omega
  intro H3 p3
  have e3 : H3 D2 = some (.lst ((ns.filter fun n => n != 0).map V.int)) := p3.at_ (by
    show ((ns.take (ns.map V.int).length).filter fun n => n != 0).map V.int = _
    rw [List.length_map, List.take_length])
  have s3 := s2.trans p3.1
  refine ⟨_, rfl, Nat.zero_le _, fun o no => ?_⟩
  have s4 : Same H (upd H3 o (.lst [])) := same_add s3 no
  refine ⟨D2, o, _, rfl, rfl, .of (by rw [upd_ne (ne_of_none e3 no)]; exact e3), lst_at, elem_ints, _, rfl, ?_⟩
  generalize eH : upd H3 o (.lst []) = H4 at s4
  have e4 : H4 D2 = some (.lst ((ns.filter fun n => n != 0).map V.int)) := by
    rw [← eH, upd_ne (ne_of_none e3 no)]
    exact e3
  cases ef : ns.filter fun n => n != 0 with
  | nil => exact iteF (hq false H4 s4 (fun z => by cases z))
  | cons z r =>
    have nz : Nz ns := by
      have hz : z ∈ ns.filter fun n => n != 0 := by rw [ef]; exact List.mem_cons_self
      obtain ⟨hz, z0⟩ := List.mem_filter.mp hz
      exact ⟨z, hz, by simpa using z0⟩
    rw [ef] at e4
    refine iteT ?_
    refine ⟨_, rfl, D2, _, 0, _, rfl, rfl, .of e4, atI_nat (j := 0) rfl, _, _, rfl, rfl, _, rfl, ?_⟩
    refine ite2 (fun _ => ?_) (fun _ => hq _ H4 s4 fun _ => nz)
    refine ⟨_, rfl, a, ns, rfl, .inr (same_t s4 hA), hf, rfl, ?_⟩
    exact hq _ H4 s4 fun _ => nz

theorem cal_law_made (T : Txt mg) (D : Def K mg "_law_made" s_law_made) (c_law_common_of : Cal CX0 P w K mg base "_law_common_of" ["_law_entries"] 4 (spLCommonOf K)) : Cal CX0 P w K mg base "_law_made" ["_law_entries"] 6 (spMade K) := by
  obtain ⟨f_law_common_of, fd_law_common_of, m_law_common_of, k_law_common_of, b_law_common_of, G_law_common_of⟩ := c_law_common_of
  refine Cal.make D sc_law_made (fun _ _ _ _ _ _ us hl => match us, hl with | [_], _ => rfl) (fun vs H Q E h => ?_) (fun f cdv A outer s H vs Q E hr h => ?_)
  · obtain ⟨a, ns, rfl, _⟩ := h
    rfl
  refine ⟨_, PSs.nox (pss_cons (ps_asg (pe_tup (pa_cons (pe_call G_law_common_of (hr.mono (by decide)) rfl m_law_common_of k_law_common_of b_law_common_of .nil pass0 (pa_cons (pv 0) pa_nil)) (pa_cons (pe_lc (own := [("_law_part_here", 4)]) (g := (gName 4)) rfl sc_law_made.nd (pi_list (pv 0)) (blkOk_by (N := n_law_made) (sc := defScope s_law_made) (by decide +kernel)) (fun _ _ _ _ _ => (pg_name (i := 4) sc_law_made.nd rfl (Or.inl rfl))) (fun _ _ _ _ _ => (pts_one (pt_cmpR op_ne (pv 4) pe_int (nomark _)))) (fun _ _ _ _ _ => (pv 4))) pa_nil))) (pg_tup rfl (pgs_cons (pg_name (i := 2) sc_law_made.nd rfl (Or.inr rfl)) (pgs_cons (pg_name (i := 3) sc_law_made.nd rfl (Or.inl rfl)) pgs_nil))))
    (Evl.pss_cut (ps_set (i := 1) sc_law_made.nd rfl (Or.inr rfl) (pe_ifExp (pt_cmpR op_gt (pe_ix ix_list (pv 3) pe_int (fun _ _ => rfl)) pe_int (nomark _)) pe_int (pe_un un_neg pe_int)))
    (pss_one (ps_ret (pe_callTy call_tuple_of (by rfl) T.tuple (by decide +kernel) (pa_cons (pe_lc (own := [("_law_part_here", 4)]) (g := (gName 4)) rfl sc_law_made.nd (pi_list (pv 0)) (blkOk_by (N := n_law_made) (sc := defScope s_law_made) (by decide +kernel)) (fun _ _ _ _ _ => (pg_name (i := 4) sc_law_made.nd rfl (Or.inl rfl))) (fun _ _ _ _ _ => pts_nil) (fun _ _ _ _ _ => (pe_op op_fdivW (pe_op op_mul (pv 1) (pv 4)) (pv 2)))) pa_nil)))))), ?_⟩
  obtain ⟨a, ns, rfl, hA, hf, nz, hn, hq⟩ := h
  refine ⟨_, rfl, a, ns, rfl, .inl hA, hf, ?_⟩
  refine ⟨_, rfl, a, rfl, ⟨_, hA⟩, fun D hD => ?_⟩
  refine lc_list (K := K) (a := a) (xs := ns.map V.int) (LcP H D fun i => ((ns.take i).filter fun n => n != 0).map V.int) (LcP.start hD rfl) (fun i H3 _ p => p.1.seq hA) ?_ ?_
  · intro i x H3 hi p
    obtain ⟨y, hy, rfl⟩ := get_int hi
    refine ⟨rfl, _, rfl, rfl, _, rfl, ?_⟩
    by_cases h0 : y = 0
    · refine ifF (neI0 h0) ?_
      refine p.no (Same.refl _) ?_
      show ((ns.take (i + 1)).filter fun n => n != 0).map V.int = _
      rw [take_next hy, List.filter_append, h0]
      simp
    · refine ifT (neI h0) ⟨_, rfl, ?_⟩
      refine p.yes hD (Same.refl _) ?_ ?_
      · show ((ns.take (i + 1)).filter fun n => n != 0).map V.int = _
        rw [take_next hy, List.filter_append]
        simp [h0]
      · rw [List.length_map]
        have := List.length_filter_le (fun n : Int => n != 0) (ns.take i)
        have := List.length_take_le i ns
        rw [List.length_take] at *
        omega
  intro H3 p3
  have e3 : H3 D = some (.lst ((ns.filter fun n => n != 0).map V.int)) := p3.at_ (by
    show ((ns.take (ns.map V.int).length).filter fun n => n != 0).map V.int = _
    rw [List.length_map, List.take_length])
  obtain ⟨z, r, ef⟩ : ∃ z r, ns.filter (fun n => n != 0) = z :: r := by
    obtain ⟨n, hn, h0⟩ := nz
    cases e : ns.filter fun n => n != 0 with
    | nil =>
      have : n ∈ ns.filter fun n => n != 0 := List.mem_filter.mpr ⟨hn, by simp [h0]⟩
      rw [e] at this
      simp at this
    | cons z r => exact ⟨z, r, rfl⟩
  rw [ef] at e3
  have es : signOf ns = if 0 < z then 1 else -1 := by
    unfold signOf
    rw [ef]
  refine ⟨by show 2 ≤ sizeLine; decide, fun p np => ⟨p, _, rfl, tup_at, rfl, _, _, rfl, _, _, rfl, rfl, ?_⟩⟩
  have sB : Same H (upd H3 p (.tup [.int (gcdAll ns), .ref D])) := same_add p3.1 np
  have eB : upd H3 p (.tup [.int (gcdAll ns), .ref D]) D = some (.lst ((z :: r).map V.int)) := by
    rw [upd_ne (ne_of_none e3 np)]
    exact e3
  generalize upd H3 p (.tup [.int (gcdAll ns), .ref D]) = HB at sB eB
  refine ⟨fun σ' H' => σ' = ((((start n_law_made [V.ref a]).set 2 (some (.int (gcdAll ns)))).set 3 (some (.ref D))).set 1 (some (.int (signOf ns)))) ∧ H' = HB, ?_, ?_⟩
  · refine ⟨_, rfl, D, _, 0, _, rfl, rfl, .of eB, atI_nat (j := 0) rfl, _, _, rfl, rfl, _, rfl, ?_⟩
    refine ite2 (fun hz => ?_) (fun hz => ?_)
    · rw [es, if_pos (of_decide_eq_true hz)]
      exact ⟨rfl, rfl⟩
    · rw [es, if_neg (fun y => hz (decide_eq_true y))]
      exact ⟨_, rfl, rfl, rfl⟩
  rintro σ' H' ⟨rfl, rfl⟩
  have hA3 : SqL K H' a (ns.map V.int) := sB.seq hA
  refine ⟨_, rfl, a, rfl, ⟨_, hA3⟩, fun D2 hD2 => ?_⟩
  refine lc_list (K := K) (a := a) (xs := ns.map V.int) (LcP H' D2 fun i => ((ns.take i).map (cutE (signOf ns) (gcdAll ns))).map V.int) (LcP.start hD2 rfl) (fun i H4 _ p => p.1.seq hA3) ?_ ?_
  · intro i x H4 hi p
    obtain ⟨y, hy, rfl⟩ := get_int hi
    refine ⟨rfl, ?_⟩
    have g1 := gcdAll_pos nz
    have g9 := gcdAll_lt ns hf
    have sa := sign_abs ns
    refine ⟨_, rfl, _, rfl, _, _, rfl, rfl, .inl ⟨by omega, by omega⟩, _, rfl, _, _, rfl, rfl, wide_div (b := 200) (by omega) (by omega) (by decide) (by decide), ?_⟩
    refine p.yes hD2 (Same.refl _) ?_ ?_
    · show ((ns.take (i + 1)).map (cutE (signOf ns) (gcdAll ns))).map V.int = _
      rw [take_next hy, List.map_append, List.map_append]
      rfl
    · rw [List.length_map, List.length_map, List.length_take]
      omega
  intro H4 p4
  have e4 : H4 D2 = some (.lst ((madeL ns).map V.int)) := p4.at_ (by
    show ((ns.take (ns.map V.int).length).map (cutE (signOf ns) (gcdAll ns))).map V.int = _
    rw [List.length_map, List.take_length]
    rfl)
  exact ⟨D2, _, rfl, .inl ⟨.of e4, fun t nt => hq t _ (same_add (sB.trans p4.1) nt) upd_same⟩⟩

end
end RM
namespace RM
open PySem PySem.Spec PyProof.Rows L2
/-- a list is written anew: a tuple stays -/
theorem t_put {K : PySem.W.Frag} {H : Hp} {D a : Addr} {l0 l xs : List V} (e : H D = some (.lst l0)) (h : SqT K H a xs) : SqT K (upd H D (.lst l)) a xs := by
  have ne : ∀ {o : HO}, H a = some o → (∀ l, o ≠ .lst l) → a ≠ D := fun h n z => by
    rw [z, e] at h
    exact n l0 (Option.some.inj h).symm
  rcases h with (h | ⟨o, h⟩) | h
  · exact .inl (.inl (by rw [upd_ne (ne h fun _ z => by cases z)]; exact h))
  · exact .inl (.inr ⟨o, by rw [upd_ne (ne h fun _ z => by cases z)]; exact h⟩)
  · exact .inr h
theorem TupsAt.put {K : PySem.W.Frag} {H : Hp} {D : Addr} {l0 l vs : List V} {G : List Int → Prop} (h : TupsAt K H vs G) (e : H D = some (.lst l0)) : TupsAt K (upd H D (.lst l)) vs G := fun v hv => by
  obtain ⟨a, ns, e1, h1, h2⟩ := h v hv
  exact ⟨a, ns, e1, t_put e h1, h2⟩
theorem TupsAt.snoc {K : PySem.W.Frag} {H : Hp} {vs : List V} {G : List Int → Prop} {a : Addr} {ns : List Int} (h : TupsAt K H vs G) (ha : SqT K H a (ns.map V.int)) (g : G ns) : TupsAt K H (vs ++ [.ref a]) G :=
  h.app fun v hv => ⟨a, ns, List.mem_singleton.mp hv, ha, g⟩
/-- under draws: what a comprehension has so far -/
def LcX (H1 : Hp) (D c d : Addr) (Ok : Nat → List V → Hp → Prop) (i : Nat) (H : Hp) : Prop := ExD H1 H ∧ SprAt H c d ∧ ∃ ys, H D = some (.lst ys) ∧ Ok i ys H ∧ ys.length ≤ i
theorem LcX.start {H1 : Hp} {D c d : Addr} {Ok : Nat → List V → Hp → Prop} (hD : H1 D = none) (s : SprAt H1 c d) (ok : ∀ H, Ok 0 [] H) : LcX H1 D c d Ok 0 (upd H1 D (.lst [])) :=
  ⟨ExD.of (same_new hD), s.put (s.ne hD), [], upd_same, ok _, Nat.le_refl 0⟩
theorem ExD.write {H H1 : Hp} {D : Addr} {o : HO} (x : ExD H1 H) (hD : H1 D = none) : ExD H1 (upd H D o) := fun b p e n => by
  rw [upd_ne (ne_of_none e hD)]
  exact x b p e n
theorem LcX.yes {H1 H4 : Hp} {D c d : Addr} {Ok : Nat → List V → Hp → Prop} {i : Nat} {ys : List V} {y : V} (x : ExD H1 H4) (s0 : SprAt H1 c d) (s : SprAt H4 c d) (hD : H1 D = none) (e : H4 D = some (.lst ys)) (hl : ys.length ≤ i) (hi : i < 1000000)
    (ok : Ok (i + 1) (ys ++ [y]) (upd H4 D (.lst (ys ++ [y])))) : ∃ acc, H4 D = some (.lst acc) ∧ acc.length < sizeLine ∧ LcX H1 D c d Ok (i + 1) (upd H4 D (.lst (acc ++ [y]))) :=
  ⟨ys, e, Nat.lt_of_lt_of_le (Nat.lt_of_le_of_lt hl hi) (by decide), x.write hD, s.put (s0.ne hD), _, upd_same, ok, by rw [List.length_append]; exact Nat.succ_le_succ hl⟩
theorem LcX.no {H1 H4 : Hp} {D c d : Addr} {Ok : Nat → List V → Hp → Prop} {i : Nat} {ys : List V} (x : ExD H1 H4) (s : SprAt H4 c d) (e : H4 D = some (.lst ys)) (hl : ys.length ≤ i) (ok : Ok (i + 1) ys H4) : LcX H1 D c d Ok (i + 1) H4 :=
  ⟨x, s, ys, e, ok, by omega⟩
/-- ints, each as G says -/
def IntsG (G : Int → Prop) (ys : List V) : Prop := ∃ ns : List Int, ys = ns.map V.int ∧ ∀ n ∈ ns, G n
theorem IntsG.snoc {G : Int → Prop} {ys : List V} {n : Int} (h : IntsG G ys) (g : G n) : IntsG G (ys ++ [.int n]) := by
  obtain ⟨ns, rfl, hg⟩ := h
  refine ⟨ns ++ [n], by rw [List.map_append] <;> rfl, fun m hm => ?_⟩
  rcases List.mem_append.mp hm with z | z
  · exact hg m z
  · rw [List.mem_singleton.mp z]
    exact g
theorem DisT.ret2 {K : PySem.W.Frag} {t : TA} {rs : List (List Int)} {i : Int} {D : Ends} {σ : L2.St} {H : Hp} (h : DisT K t rs) (hn : rs.length ≤ 1000) (q : ∀ l H', Same H H' → LotAt K H' l i rs → D.rt (.ref l) H') : tRet (tTup (tCons (tC (.int i)) (tCons (tTup t) tNil))) D σ H :=
  h σ H _ fun vs H1 s1 hr => ⟨by rw [hr.1, sizeLine_eq]; omega, fun p np => ⟨by show 2 ≤ sizeLine; decide, fun l nl => q l _ (same_add (same_add s1 np) nl) ⟨p, vs, .of upd_same, .of (by rw [upd_ne (ne_of_none upd_same nl)]; exact upd_same), hr.same (same_add (same_new np) nl)⟩⟩⟩
theorem DisT.lst {K : PySem.W.Frag} {t : TA} {rs : List (List Int)} {σ : L2.St} {H : Hp} {Q : VK} (h : DisT K t rs) (hn : rs.length ≤ 1000) (q : ∀ l us H', Same H H' → H' l = some (.lst us) → RaysAt K H' us rs → Q (.ref l) H') : tLst t σ H Q :=
  h σ H _ fun vs H1 s1 hr => ⟨by rw [hr.1, sizeLine_eq]; omega, fun p np => q p vs _ (same_add s1 np) upd_same (hr.same (same_new np))⟩
theorem seqA {te : TE} {g : TG} {u : TS} {D : Ends} {σ : L2.St} {H : Hp} (h : te σ H fun x H1 => g x σ H1 (u D)) : tSeq (tAsg te g) u D σ H := h
theorem RaysAt.put {K : PySem.W.Frag} {H : Hp} {D : Addr} {l0 l vs : List V} {rs : List (List Int)} (h : RaysAt K H vs rs) (e : H D = some (.lst l0)) : RaysAt K (upd H D (.lst l)) vs rs :=
  ⟨h.1, fun i v hv => by
    obtain ⟨r, a, h1, h2, h3⟩ := h.2 i v hv
    exact ⟨r, a, h1, h2, t_put e h3⟩⟩
theorem RaysAt.one {K : PySem.W.Frag} {H : Hp} {a : Addr} {r : List Int} (h : SqT K H a (r.map V.int)) : RaysAt K H [.ref a] [r] :=
  ⟨rfl, fun i v hv => by
    cases i with
    | zero => exact ⟨r, a, rfl, (Option.some.inj hv).symm, h⟩
    | succ i => simp at hv⟩
theorem call_tuple_ofK {X : Cx} {K : PySem.W.Frag} (hK : X.K = K) : CallR X (.type "tuple") (fun xs H Q => ∃ p ys, xs = [.ref p] ∧ ((SqL K H p ys ∧ ∀ l, H l = none → Q (.ref l) (upd H l (.tup ys))) ∨ (SqT K H p ys ∧ Q (.ref p) H))) := by
  subst hK
  exact call_tuple_of
/-- the scope of the outer comprehension of _law_axes -/
def scAxes : Scope := { kind := .function, names := [(".0", .local), ("_law_spot", .cell), ("tuple", .globalImplicit), ("range", .globalImplicit), ("_law_wide", .free)], isGenerator := false, isCoroutine := false }
def scAxis : Scope := { kind := .function, names := [(".0", .local), ("_law_k", .local), ("int", .globalImplicit), ("_law_spot", .free)], isGenerator := false, isCoroutine := false }
theorem op_catAK {X : Cx} {K : PySem.W.Frag} (hK : X.K = K) : OpR X (binaryOp .Add) (rCatA K) := by
  subst hK
  exact op_catA
def nineL : List (List Int) := [[0, 0, 1], [0, 1, -1], [0, 1, 0], [0, 1, 1], [1, -1, 0], [1, 0, -1], [1, 0, 0], [1, 0, 1], [1, 1, 0]]
def eightA : List (List Int) := [[0, 0, 0, 1], [0, 0, 1, 0], [0, 0, 1, 1], [0, 1, -1, 0], [0, 1, 0, -1], [0, 1, 0, 0], [1, -1, -1, -1], [1, -1, -1, 1]]
def eightB : List (List Int) := [[1, -1, 0, 0], [1, -1, 1, -1], [1, 0, -1, 0], [1, 0, 0, -1], [1, 0, 0, 1], [1, 0, 1, 0], [1, 1, -1, 1]]
def eightC : List (List Int) := [[1, 1, 0, 0], [1, 1, 1, -1], [1, 1, 1, 1]]
def spNine (K : PySem.W.Frag) : Sp := fun vs H Q _ => vs = [] ∧ ∀ l H', Same H H' → LotAt K H' l 3 nineL → Q (.ref l) H'
def spEighteen (K : PySem.W.Frag) : Sp := fun vs H Q _ => vs = [] ∧ ∀ l H', Same H H' → LotAt K H' l 4 ((eightA ++ eightB) ++ eightC) → Q (.ref l) H'
def axisL (w spot : Nat) : List Int := (List.range w).map fun k => if k = spot then 1 else 0
def axesL (w : Nat) : List (List Int) := (List.range w).map fun i => axisL w (w - 1 - i)
def spAxes (K : PySem.W.Frag) : Sp := fun vs H Q _ => ∃ w : Nat, vs = [.int w] ∧ w ≤ 5 ∧ ∀ l us H', Same H H' → H' l = some (.lst us) → RaysAt K H' us (axesL w) → Q (.ref l) H'
def spAll (K : PySem.W.Frag) : Sp := fun vs H Q _ => vs = [.int 3, .int 1] ∧ ∀ l us H', Same H H' → H' l = some (.lst us) → us.length ≤ 27 → TupsAt K H' us (fun ns => ns.length = 3 ∧ Bnd 1 ns ∧ Nz ns) → Q (.ref l) H'
section
variable {P : Program} {w : World} {K : PySem.W.Frag} {mg : Str → Option Value} {base : Heap}
theorem cal_law_nine (T : Txt mg) (D : Def K mg "_law_nine" s_law_nine)  : Cal CX0 P w K mg base "_law_nine" [] 2 (spNine K) := by
  refine Cal.make D sc_law_nine (fun _ _ _ _ _ _ us hl => match us, hl with | [], _ => rfl) (fun vs H Q E h => ?_) (fun f cdv A outer s H vs Q E hr h => ?_)
  · obtain ⟨rfl, _⟩ := h
    rfl
  refine ⟨_, PSs.nox (pss_one (ps_ret (pe_tup (pa_cons pe_int (pa_cons (pe_tup (pa_cons (pe_tup (pa_cons pe_int (pa_cons pe_int (pa_cons pe_int pa_nil)))) (pa_cons (pe_tup (pa_cons pe_int (pa_cons pe_int (pa_cons (pe_un un_neg pe_int) pa_nil)))) (pa_cons (pe_tup (pa_cons pe_int (pa_cons pe_int (pa_cons pe_int pa_nil)))) (pa_cons (pe_tup (pa_cons pe_int (pa_cons pe_int (pa_cons pe_int pa_nil)))) (pa_cons (pe_tup (pa_cons pe_int (pa_cons (pe_un un_neg pe_int) (pa_cons pe_int pa_nil)))) (pa_cons (pe_tup (pa_cons pe_int (pa_cons pe_int (pa_cons (pe_un un_neg pe_int) pa_nil)))) (pa_cons (pe_tup (pa_cons pe_int (pa_cons pe_int (pa_cons pe_int pa_nil)))) (pa_cons (pe_tup (pa_cons pe_int (pa_cons pe_int (pa_cons pe_int pa_nil)))) (pa_cons (pe_tup (pa_cons pe_int (pa_cons pe_int (pa_cons pe_int pa_nil)))) pa_nil)))))))))) pa_nil))))), ?_⟩
  obtain ⟨rfl, hq⟩ := h
  exact DisT.ret2 (K := K) (rs := nineL) (by repeat (first | exact DisT.nil | (refine DisT.cons ?_ (by decide) ?_; (repeat (first | exact DisI.nil | apply DisI.neg | apply DisI.pos))))) (by decide) fun l H' s hl => hq l H' s hl

theorem cal_law_eighteen (T : Txt mg) (D : Def K mg "_law_eighteen" s_law_eighteen)  : Cal CX0 P w K mg base "_law_eighteen" [] 2 (spEighteen K) := by
  refine Cal.make D sc_law_eighteen (fun _ _ _ _ _ _ us hl => match us, hl with | [], _ => rfl) (fun vs H Q E h => ?_) (fun f cdv A outer s H vs Q E hr h => ?_)
  · obtain ⟨rfl, _⟩ := h
    rfl
  refine ⟨_, PSs.nox (pss_cons (ps_set (i := 0) sc_law_eighteen.nd rfl (Or.inl rfl) (pe_lst (pa_cons (pe_tup (pa_cons pe_int (pa_cons pe_int (pa_cons pe_int (pa_cons pe_int pa_nil))))) (pa_cons (pe_tup (pa_cons pe_int (pa_cons pe_int (pa_cons pe_int (pa_cons pe_int pa_nil))))) (pa_cons (pe_tup (pa_cons pe_int (pa_cons pe_int (pa_cons pe_int (pa_cons pe_int pa_nil))))) (pa_cons (pe_tup (pa_cons pe_int (pa_cons pe_int (pa_cons (pe_un un_neg pe_int) (pa_cons pe_int pa_nil))))) (pa_cons (pe_tup (pa_cons pe_int (pa_cons pe_int (pa_cons pe_int (pa_cons (pe_un un_neg pe_int) pa_nil))))) (pa_cons (pe_tup (pa_cons pe_int (pa_cons pe_int (pa_cons pe_int (pa_cons pe_int pa_nil))))) (pa_cons (pe_tup (pa_cons pe_int (pa_cons (pe_un un_neg pe_int) (pa_cons (pe_un un_neg pe_int) (pa_cons (pe_un un_neg pe_int) pa_nil))))) (pa_cons (pe_tup (pa_cons pe_int (pa_cons (pe_un un_neg pe_int) (pa_cons (pe_un un_neg pe_int) (pa_cons pe_int pa_nil))))) pa_nil))))))))))
    (pss_cons (ps_set (i := 0) sc_law_eighteen.nd rfl (Or.inl rfl) (pe_op op_cat (pv 0) (pe_lst (pa_cons (pe_tup (pa_cons pe_int (pa_cons (pe_un un_neg pe_int) (pa_cons pe_int (pa_cons pe_int pa_nil))))) (pa_cons (pe_tup (pa_cons pe_int (pa_cons (pe_un un_neg pe_int) (pa_cons pe_int (pa_cons (pe_un un_neg pe_int) pa_nil))))) (pa_cons (pe_tup (pa_cons pe_int (pa_cons pe_int (pa_cons (pe_un un_neg pe_int) (pa_cons pe_int pa_nil))))) (pa_cons (pe_tup (pa_cons pe_int (pa_cons pe_int (pa_cons pe_int (pa_cons (pe_un un_neg pe_int) pa_nil))))) (pa_cons (pe_tup (pa_cons pe_int (pa_cons pe_int (pa_cons pe_int (pa_cons pe_int pa_nil))))) (pa_cons (pe_tup (pa_cons pe_int (pa_cons pe_int (pa_cons pe_int (pa_cons pe_int pa_nil))))) (pa_cons (pe_tup (pa_cons pe_int (pa_cons pe_int (pa_cons (pe_un un_neg pe_int) (pa_cons pe_int pa_nil))))) pa_nil))))))))))
    (pss_one (ps_ret (pe_tup (pa_cons pe_int (pa_cons (pe_callTy call_tuple_of (by rfl) T.tuple (by decide +kernel) (pa_cons (pe_op op_cat (pv 0) (pe_lst (pa_cons (pe_tup (pa_cons pe_int (pa_cons pe_int (pa_cons pe_int (pa_cons pe_int pa_nil))))) (pa_cons (pe_tup (pa_cons pe_int (pa_cons pe_int (pa_cons pe_int (pa_cons (pe_un un_neg pe_int) pa_nil))))) (pa_cons (pe_tup (pa_cons pe_int (pa_cons pe_int (pa_cons pe_int (pa_cons pe_int pa_nil))))) pa_nil))))) pa_nil)) pa_nil))))))), ?_⟩
  obtain ⟨rfl, hq⟩ := h
  refine seqA (DisT.lst (K := K) (rs := eightA) ?_ (by decide) fun l1 u1 H1 s1 e1 r1 => ?_)
  · exact (by repeat (first | exact DisT.nil | (refine DisT.cons ?_ (by decide) ?_; (repeat (first | exact DisI.nil | apply DisI.neg | apply DisI.pos)))))
  refine ⟨_, rfl, DisT.lst (K := K) (rs := eightB) ?_ (by decide) fun l2 u2 H2 s2 e2 r2 => ⟨l1, l2, _, _, rfl, rfl, s2 _ _ e1, e2, ?_, fun p np => ?_⟩⟩
  · exact (by repeat (first | exact DisT.nil | (refine DisT.cons ?_ (by decide) ?_; (repeat (first | exact DisI.nil | apply DisI.neg | apply DisI.pos)))))
  · rw [r1.1, r2.1]
    decide
  generalize eH : upd H2 p (.lst (u1 ++ u2)) = H3
  have e3 : H3 p = some (.lst (u1 ++ u2)) := by rw [← eH]; exact upd_same
  have s3 : Same H2 H3 := by rw [← eH]; exact same_new np
  have r3 := ((r1.same s2).append r2).same s3
  refine ⟨_, rfl, DisT.lst (K := K) (rs := eightC) ?_ (by decide) fun l4 u4 H4 s4 e4 r4 => ⟨p, l4, _, _, rfl, rfl, s4 _ _ e3, e4, ?_, fun q nq => ?_⟩⟩
  · exact (by repeat (first | exact DisT.nil | (refine DisT.cons ?_ (by decide) ?_; (repeat (first | exact DisI.nil | apply DisI.neg | apply DisI.pos)))))
  · rw [r3.1, r4.1]
    decide
  refine ⟨q, _, rfl, .inl ⟨lst_at, fun t nt => ⟨by show 2 ≤ sizeLine; decide, fun c nc => hq c _ ?_ ⟨t, _, .of upd_same, .of (by rw [upd_ne (ne_of_none upd_same nc)]; exact upd_same), ?_⟩⟩⟩⟩
  · exact ((((s1.trans s2).trans s3).trans s4).trans (same_new nq)).trans (same_add (same_new nt) nc)
  · exact ((r3.same s4).append r4).same ((same_new nq).trans (same_add (same_new nt) nc))

theorem cal_law_axes (T : Txt mg) (D : Def K mg "_law_axes" s_law_axes)  : Cal CX0 P w K mg base "_law_axes" ["_law_wide"] 2 (spAxes K) := by
  refine Cal.make D sc_law_axes (fun _ _ _ _ _ _ us hl => match us, hl with | [_], _ => rfl) (fun vs H Q E h => ?_) (fun f cdv A outer s H vs Q E hr h => ?_)
  · obtain ⟨w, rfl, _⟩ := h
    rfl
  refine ⟨_, PSs.nox (pss_one (ps_ret (pe_lc (own := [("_law_spot", 1)]) (g := (gName 1)) rfl sc_law_axes.nd (pi_range3 (by rfl) T.range (pa_cons (pe_op op_sub (pv 0) pe_int) (pa_cons (pe_un un_neg pe_int) (pa_cons (pe_un un_neg pe_int) pa_nil)))) (blkOk_by (N := n_law_axes) (sc := defScope s_law_axes) (by decide +kernel)) (fun _ _ _ _ _ => (pg_name (i := 1) sc_law_axes.nd rfl (Or.inr rfl))) (fun _ _ _ _ _ => pts_nil) (fun _ _ _ _ _ => (pe_callTy (call_tuple_ofK (K := K) rfl) (by rfl) T.tuple (by decide +kernel) (pa_cons (pe_lc (own := [("_law_k", 2)]) (g := (gName 2)) rfl sc_law_axes.nd (pi_range1 (by rfl) T.range (pa_cons (pv 0) pa_nil)) (blkOk_by (by kernel_rfl)) (fun _ _ _ _ _ => (pg_name (i := 2) sc_law_axes.nd rfl (Or.inl rfl))) (fun _ _ _ _ _ => pts_nil) (fun _ _ _ _ _ => (pe_callTy call_int1 (by rfl) T.int (by decide +kernel) (pa_cons (pe_cmpR op_eq (pv 2) (pv 1) (nomark _)) pa_nil)))) pa_nil)))))), ?_⟩
  obtain ⟨w, rfl, hw, hq⟩ := h
  refine ⟨_, rfl, _, _, rfl, rfl, _, rfl, _, rfl, (w : Int) - 1, -1, -1, w, rfl, ?_, fun D hD => ?_⟩
  · have := RgC.neg (i := (w : Int) - 1) (j := -1) (by omega) (by omega) (by decide) (by decide)
    rw [show ((w : Int) - 1 - -1).toNat = w by omega] at this
    exact this
  refine lc_it (walk_rangeC (lo := (w : Int) - 1) (c := -1) (n := w)) (LcE H D fun i ys H' => RaysAt K H' ys ((axesL w).take i)) (LcE.start hD fun H' _ => ⟨rfl, fun i v h => by simp at h⟩) (fun _ _ _ _ => trivial) ?_ ?_
  · rintro i v H1 H2 hi ⟨s1, ys, e, good⟩ ⟨eH, rfl⟩
    subst eH
    refine ⟨rfl, ?_⟩
    refine ⟨_, rfl, w, rfl, by omega, by omega, fun D2 hD2 => ?_⟩
    refine lc_range (lo := 0) (n := w) (LcP H2 D2 fun j => ((axisL w (w - 1 - i)).take j).map V.int) (LcP.start hD2 rfl) ?_ ?_
    · intro j H3 hj p
      refine ⟨rfl, _, rfl, _, rfl, rfl, .inr ⟨_, rfl, ?_⟩⟩
      refine p.yes hD2 (Same.refl _) ?_ (Nat.lt_of_le_of_lt (map_take_len _ _ _) (by rw [axisL, List.length_map, List.length_range]; omega))
      have e1 : (axisL w (w - 1 - i))[j]? = some (if j = w - 1 - i then 1 else 0) := by
        rw [axisL, List.getElem?_map, List.getElem?_range hj]
        rfl
      refine (map_take_next e1).trans ?_
      congr 2
      by_cases z : j = w - 1 - i
      · rw [if_pos z, if_pos (eqI (by omega))]
      · rw [if_neg z, if_neg (by rw [eqI0 (by omega)]; exact Bool.false_ne_true)]
    · intro H3 p
      have e3 : H3 D2 = some (.lst ((axisL w (w - 1 - i)).map V.int)) := p.at_ (by rw [List.take_of_length_le]; rw [axisL, List.length_map, List.length_range]; exact Nat.le_refl _)
      refine ⟨D2, _, rfl, .inl ⟨.of e3, fun t nt => ?_⟩⟩
      have s4 : Same H2 (upd H3 t (.tup ((axisL w (w - 1 - i)).map V.int))) := same_add p.1 nt
      refine LcE.yes s1 e hD s4 (by rw [good.1, List.length_take, axesL, List.length_map, List.length_range]; omega) ?_
      have e1 : (axesL w)[i]? = some (axisL w (w - 1 - i)) := by
        rw [axesL, List.getElem?_map, List.getElem?_range hi]
        rfl
      rw [take_next e1]
      exact (((good.same s4).append (RaysAt.one (.of upd_same)))).put (s4 _ _ e)
  · rintro H1 ⟨s1, ys, e, good⟩
    rw [List.take_of_length_le (by rw [axesL, List.length_map, List.length_range]; exact Nat.le_refl _)] at good
    exact hq D ys H1 s1 e good

theorem cal_law_all (T : Txt mg) (D : Def K mg "_law_all" s_law_all) (c_law_is_beam : Cal CX0 P w K mg base "_law_is_beam" ["_law_item", "_law_wide"] 6 (spIsBeam K)) : Cal CX0 P w K mg base "_law_all" ["_law_wide", "_law_most"] 8 (spAll K) := by
  obtain ⟨f_law_is_beam, fd_law_is_beam, m_law_is_beam, k_law_is_beam, b_law_is_beam, G_law_is_beam⟩ := c_law_is_beam
  refine Cal.make D sc_law_all (fun _ _ _ _ _ _ us hl => match us, hl with | [_, _], _ => rfl) (fun vs H Q E h => ?_) (fun f cdv A outer s H vs Q E hr h => ?_)
  · obtain ⟨rfl, _⟩ := h
    rfl
  refine ⟨_, PSs.nox (pss_cons (ps_set (i := 2) sc_law_all.nd rfl (Or.inl rfl) (pe_lst (pa_cons (pe_tup pa_nil) pa_nil)))
    (pss_cons (ps_for PassesOwn.never rfl (pi_range1 (by rfl) T.range (pa_cons (pv 0) pa_nil)) (pg_name (i := 3) sc_law_all.nd rfl (Or.inl rfl))
      (pss_cons (ps_set (i := 4) sc_law_all.nd rfl (Or.inl rfl) (pe_lst pa_nil))
    (Evl.pss_cut (ps_for PassesOwn.never rfl (pi_list (pv 2)) (pg_name (i := 5) sc_law_all.nd rfl (Or.inr rfl))
      (pss_one (ps_set (i := 4) sc_law_all.nd rfl (Or.inl rfl) (pe_op op_cat (pv 4) (pe_lc (own := [("_law_part_here", 7)]) (g := (gName 7)) rfl sc_law_all.nd (pi_range2 (by rfl) T.range (pa_cons (pe_op op_sub pe_int (pv 1)) (pa_cons (pe_op op_add (pv 1) pe_int) pa_nil))) (blkOk_by (N := n_law_all) (sc := defScope s_law_all) (by decide +kernel)) (fun _ _ _ _ _ => (pg_name (i := 7) sc_law_all.nd rfl (Or.inl rfl))) (fun _ _ _ _ _ => pts_nil) (fun _ _ _ _ _ => (pe_op (op_catAK (K := K) rfl) (pv 5) (pe_tup (pa_cons (pv 7) pa_nil)))))))))
    (pss_one (ps_set (i := 2) sc_law_all.nd rfl (Or.inl rfl) (pv 4))))))
    (pss_one (ps_ret (pe_lc (own := [("_law_beam", 6)]) (g := (gName 6)) rfl sc_law_all.nd (pi_list (pv 2)) (blkOk_by (N := n_law_all) (sc := defScope s_law_all) (by decide +kernel)) (fun _ _ _ _ _ => (pg_name (i := 6) sc_law_all.nd rfl (Or.inl rfl))) (fun _ _ _ _ _ => (pts_one (pt_val (pe_call G_law_is_beam (hr.mono (by decide)) rfl m_law_is_beam k_law_is_beam b_law_is_beam .nil pass0 (pa_cons (pv 6) (pa_cons (pv 0) pa_nil)))))) (fun _ _ _ _ _ => (pv 6))))))), ?_⟩
  obtain ⟨rfl, hq⟩ := h
  refine ⟨by show 0 ≤ sizeLine; decide, fun z nz => ⟨by show 1 ≤ sizeLine; decide, fun l nl => ?_⟩⟩
  have s0 : Same H (upd (upd H z (.tup [])) l (.lst [.ref z])) := same_add (same_new nz) nl
  refine ⟨_, rfl, 3, rfl, by decide, by decide, for_range (lo := 0) (n := 3) (fun i σ H' => ∃ (l : Addr) (vs : List V) (y3 y4 y5 : Option V), σ = [some (.int 3), some (.int 1), some (.ref l), y3, y4, y5, none, none] ∧ Same H H' ∧ H' l = some (.lst vs) ∧ TupsAt K H' vs (fun ns => ns.length = i ∧ Bnd 1 ns) ∧ vs.length ≤ 3 ^ i)
    ⟨l, [.ref z], none, none, none, rfl, s0, upd_same, fun v hv => ⟨z, [], List.mem_singleton.mp hv, .of (by rw [upd_ne (ne_of_none upd_same nl)]; exact upd_same), rfl, fun n hn => absurd hn (by simp)⟩, Nat.le_refl 1⟩ ?_ ?_⟩
  · rintro i σ H' hi ⟨l, vs, y3, y4, y5, rfl, s1, hl, tv, lv⟩
    refine ⟨by show 0 ≤ sizeLine; decide, fun e0 ne0 => ?_⟩
    have lv9 : vs.length ≤ 27 := Nat.le_trans lv (Nat.le_trans (Nat.pow_le_pow_right (by decide) (show i ≤ 3 by omega)) (by decide))
    refine ⟨fun σ' H'' => ∃ (e : Addr) (us : List V) (y5 : Option V), σ' = [some (.int 3), some (.int 1), some (.ref l), some (.int (0 + (i : Nat))), some (.ref e), y5, none, none] ∧ Same H H'' ∧ H'' e = some (.lst us) ∧ TupsAt K H'' us (fun ns => ns.length = i + 1 ∧ Bnd 1 ns) ∧ us.length ≤ 3 ^ (i + 1), ?_, ?_⟩
    · have s2 : Same H' (upd H' e0 (.lst [])) := same_new ne0
      refine ⟨_, rfl, l, rfl, ⟨_, .of (s2 _ _ hl)⟩, for_list (K := K) (a := l) (xs := vs) (fun j σ' H'' => ∃ (e : Addr) (us : List V) (y5 : Option V), σ' = [some (.int 3), some (.int 1), some (.ref l), some (.int (0 + (i : Nat))), some (.ref e), y5, none, none] ∧ Same H' H'' ∧ H'' e = some (.lst us) ∧ TupsAt K H'' us (fun ns => ns.length = i + 1 ∧ Bnd 1 ns) ∧ us.length ≤ 3 * j)
        ⟨e0, [], y5, rfl, s2, upd_same, TupsAt.nil, Nat.le_refl 0⟩ (fun j σ' H'' _ p => ?_) ?_ ?_⟩
      · obtain ⟨e, us, y, _, s3, _⟩ := p
        exact .of (s3 _ _ hl)
      · rintro j v σ' H'' hj ⟨e, us, y, rfl, s3, he, tu, lu⟩
        obtain ⟨a, ns, rfl, ha, hn, hb⟩ := tv v (List.mem_of_getElem? hj)
        have ha := same_t s3 ha
        have hjl : j < vs.length := (List.getElem?_eq_some_iff.mp hj).1
        refine ⟨_, rfl, _, rfl, _, _, rfl, rfl, _, rfl, _, _, rfl, rfl, -1, 2, rfl, by decide, fun D hD => ?_⟩
        refine lc_range (lo := -1) (n := 3) (LcE H'' D fun k ys H4 => TupsAt K H4 ys (fun ns => ns.length = i + 1 ∧ Bnd 1 ns) ∧ ys.length = k) (LcE.start hD fun _ _ => ⟨TupsAt.nil, rfl⟩) ?_ ?_
        · rintro k H4 hk ⟨s4, ys, ey, ty, ly⟩
          refine ⟨rfl, _, rfl, _, rfl, by show 1 ≤ sizeLine; decide, fun q nq => ?_⟩
          have s5 : Same H4 (upd H4 q (.tup [.int (-1 + (k : Nat))])) := same_new nq
          have good : (ns ++ [-1 + ((k : Nat) : Int)]).length = i + 1 ∧ Bnd 1 (ns ++ [-1 + ((k : Nat) : Int)]) := by
            refine ⟨by rw [List.length_append, hn] <;> rfl, fun m hm => ?_⟩
            rcases List.mem_append.mp hm with y | y
            · exact hb m y
            · rw [List.mem_singleton.mp y]
              omega
          have step : ∀ (p : Addr) (H5 : Hp), Same H4 H5 → SqT K H5 p ((ns ++ [-1 + ((k : Nat) : Int)]).map V.int) → ∃ acc, H5 D = some (.lst acc) ∧ acc.length < sizeLine ∧ LcE H'' D (fun k ys H4 => TupsAt K H4 ys (fun ns => ns.length = i + 1 ∧ Bnd 1 ns) ∧ ys.length = k) (k + 1) (upd H5 D (.lst (acc ++ [.ref p]))) := fun p H5 s6 hp =>
            LcE.yes s4 ey hD s6 (by omega) ⟨((ty.same s6).snoc hp good).put (s6 _ _ ey), by rw [List.length_append, ly] <;> rfl⟩
          refine ⟨a, q, ns.map V.int, [.int (-1 + (k : Nat))], rfl, rfl, same_t (s4.trans s5) ha, .of upd_same, ?_, fun z => ?_, fun _ z => absurd z (by simp), fun _ _ p np => ?_⟩
          · rw [List.length_map, hn, sizeLine_eq]
            show i + 1 ≤ _
            omega
          · have : ns = [] := List.map_eq_nil_iff.mp z
            subst this
            exact step q _ s5 (.of upd_same)
          · exact step p _ (same_add s5 np) (.of (by rw [upd_same, List.map_append] <;> rfl))
        · rintro H4 ⟨s4, ys, ey, ty, ly⟩
          refine ⟨e, D, us, ys, rfl, rfl, s4 _ _ he, ey, by rw [sizeLine_eq]; omega, fun q nq => ?_⟩
          have s5 : Same H4 (upd H4 q (.lst (us ++ ys))) := same_new nq
          exact ⟨q, us ++ ys, some (.ref a), rfl, (s3.trans s4).trans s5, upd_same, ((tu.same s4).app ty).same s5, by rw [List.length_append]; omega⟩
      · rintro σ' H'' ⟨e, us, y, rfl, s3, he, tu, lu⟩
        refine ⟨e, us, y, rfl, s1.trans s3, he, tu, ?_⟩
        rw [Nat.pow_succ]
        omega
    · rintro σ' H'' ⟨e, us, y, rfl, s3, he, tu, lu⟩
      exact ⟨_, rfl, e, us, _, _, _, rfl, s3, he, tu, lu⟩
  · rintro σ H' ⟨l, vs, y3, y4, y5, rfl, s1, hl, tv, lv⟩
    have lv9 : vs.length ≤ 27 := lv
    refine ⟨_, rfl, l, rfl, ⟨_, .of hl⟩, fun D hD => ?_⟩
    refine lc_list (K := K) (a := l) (xs := vs) (LcE H' D fun i ys H4 => TupsAt K H4 ys (fun ns => ns.length = 3 ∧ Bnd 1 ns ∧ Nz ns) ∧ ys.length ≤ i) (LcE.start hD fun _ _ => ⟨TupsAt.nil, Nat.le_refl 0⟩) (fun i H4 _ p => .of (p.1 _ _ hl)) ?_ ?_
    · rintro i v H4 hi ⟨s4, ys, ey, ty, ly⟩
      obtain ⟨a, ns, rfl, ha, hn, hb⟩ := tv v (List.mem_of_getElem? hi)
      have hil : i < vs.length := (List.getElem?_eq_some_iff.mp hi).1
      refine ⟨rfl, _, rfl, _, rfl, a, ns, by rw [hn] <;> rfl, same_t s4 ha, Fits.of_bnd hb (by decide), by omega, fun k H5 s5 hk => ⟨k, rfl, ?_⟩⟩
      cases k with
      | true => exact iteT ⟨_, rfl, LcE.yes s4 ey hD s5 (by omega) ⟨((ty.same s5).snoc (same_t (s4.trans s5) ha) ⟨hn, hb, hk rfl⟩).put (s5 _ _ ey), by rw [List.length_append]; exact Nat.succ_le_succ ly⟩⟩
      | false => exact iteF ⟨s4.trans s5, ys, s5 _ _ ey, ty.same s5, by omega⟩
    · rintro H4 ⟨s4, ys, ey, ty, ly⟩
      exact hq D ys H4 (s1.trans s4) ey (Nat.le_trans ly lv9) ty

end
end RM
namespace RM
open PySem PySem.Spec PyProof.Rows L2
theorem cut_mem {xs : List V} {lo hi : Option Int} {v : V} (h : v ∈ cutV xs lo hi) : v ∈ xs := List.mem_of_mem_drop (List.mem_of_mem_take h)
theorem cut_from (xs : List V) (n : Nat) : cutV xs (some (n : Int)) none = xs.drop n := by
  unfold cutV
  rw [HT.sIx_nat, HT.sIx_none]
  rcases Nat.le_total n xs.length with h | h
  · rw [Nat.min_eq_left h]
    exact List.take_of_length_le (by rw [List.length_drop]; exact Nat.le_refl _)
  · rw [Nat.min_eq_right h, List.drop_length, List.drop_of_length_le h, List.take_nil]
theorem cut_to (xs : List V) (n : Nat) : cutV xs none (some (n : Int)) = xs.take n := by
  unfold cutV
  rw [HT.sIx_nat, HT.sIx_none, List.drop_zero, Nat.sub_zero]
  rcases Nat.le_total n xs.length with h | h
  · rw [Nat.min_eq_left h]
  · rw [Nat.min_eq_right h, List.take_length, List.take_of_length_le h]
/-- a beam of a heap: size, bounds, not all 0 -/
def Beam (w : Nat) (ns : List Int) : Prop := ns.length = w ∧ Bnd 3 ns ∧ Nz ns
def Ray (w : Nat) (ns : List Int) : Prop := ns.length = w ∧ Bnd 3 ns ∧ RayOk ns
def spPart (K : PySem.W.Frag) : Sp := fun vs H Q _ => ∃ (c d l : Addr) (us : List V) (G : List Int → Prop), vs = [.ref d, .ref l, .int 12] ∧ SprAt H c d ∧ H l = some (.lst us) ∧ 0 < us.length ∧ us.length ≤ 100 ∧ TupsAt K H us G ∧
  ∀ p ws H', SprAt H' c d → ExD H H' → H' p = some (.lst ws) → ws.length ≤ 12 → TupsAt K H' ws G → Q (.ref p) H'
def spTurned (K : PySem.W.Frag) : Sp := fun vs H Q _ => ∃ (c d h b : Addr) (w : Nat) (us : List V), vs = [.ref d, .ref h] ∧ SprAt H c d ∧ SqT K H h [.int w, .ref b] ∧ SqT K H b us ∧ 2 ≤ w ∧ w ≤ 5 ∧ us.length ≤ 12 ∧ TupsAt K H us (Beam w) ∧
  ∀ (l : Addr) (rs : List (List Int)) H', SprAt H' c d → ExD H H' → LotAt K H' l w rs → rs.length ≤ 12 → (∀ r ∈ rs, Ray w r) → Q (.ref l) H'
def spHeap (K : PySem.W.Frag) : Sp := fun vs H Q _ => ∃ (c d : Addr), vs = [.ref d, .int 12] ∧ SprAt H c d ∧
  ∀ (l : Addr) (w : Nat) (rs : List (List Int)) H', SprAt H' c d → ExD H H' → 2 ≤ w → w ≤ 5 → LotAt K H' l w rs → rs.length ≤ 12 → (∀ r ∈ rs, Ray w r) → Q (.ref l) H'
def spDrawn (K : PySem.W.Frag) : Sp := fun vs H Q _ => ∃ (c d : Addr) (w : Nat), vs = [.ref d, .int w] ∧ SprAt H c d ∧ 3 ≤ w ∧ w ≤ 5 ∧
  ∀ (p : Addr) (ns : List Int) H', SprAt H' c d → ExD H H' → SqT K H' p (ns.map V.int) → ns.length = w → RayOk ns → Bnd (10 ^ 29) ns → Q (.ref p) H'
theorem ix_listK {X : Cx} {K : PySem.W.Frag} (hK : X.K = K) : IxR X (rIxL K) := by
  subst hK
  exact ix_list
theorem ix_tupK {X : Cx} {K : PySem.W.Frag} (hK : X.K = K) : IxR X (rIxT K) := by
  subst hK
  exact ix_tup
/-- the rays that references tell -/
theorem TupsAt.rays {K : PySem.W.Frag} {H : Hp} {G : List Int → Prop} : ∀ {vs : List V}, TupsAt K H vs G → ∃ rs, RaysAt K H vs rs ∧ ∀ r ∈ rs, G r
  | [], _ => ⟨[], ⟨rfl, fun i v h => by simp at h⟩, fun r hr => absurd hr (by simp)⟩
  | v :: vs, h => by
    obtain ⟨rs, h1, h2⟩ := TupsAt.rays (h.sub (us := vs) fun u hu => List.mem_cons_of_mem _ hu)
    obtain ⟨a, ns, rfl, ha, hg⟩ := h v List.mem_cons_self
    exact ⟨ns :: rs, (RaysAt.one ha).append h1, fun r hr => (List.mem_cons.mp hr).elim (fun e => by rw [e]; exact hg) (h2 r)⟩
theorem TupsAt.keys {K : PySem.W.Frag} {H : Hp} {G : List Int → Prop} : ∀ {vs : List V}, TupsAt K H vs G → ∃ ks : List (Addr × List Int), vs = ks.map (fun p => V.ref p.1) ∧ ∀ p ∈ ks, SqT K H p.1 (p.2.map V.int) ∧ G p.2
  | [], _ => ⟨[], rfl, fun r hr => absurd hr (by simp)⟩
  | v :: vs, h => by
    obtain ⟨ks, h1, h2⟩ := TupsAt.keys (h.sub (us := vs) fun u hu => List.mem_cons_of_mem _ hu)
    obtain ⟨a, ns, rfl, ha, hg⟩ := h v List.mem_cons_self
    exact ⟨(a, ns) :: ks, by rw [h1, List.map_cons], fun r hr => (List.mem_cons.mp hr).elim (fun e => by rw [e]; exact ⟨ha, hg⟩) (h2 r)⟩
theorem Bnd.mono {A B : Nat} {ns : List Int} (h : Bnd A ns) (l : A ≤ B) : Bnd B ns := fun n hn => Nat.le_trans (h n hn) l
theorem axis_ok {w : Nat} (h3 : 3 ≤ w) (h5 : w ≤ 5) : RayOk (axisL w (w - 1)) ∧ (axisL w (w - 1)).length = w ∧ Bnd 1 (axisL w (w - 1)) := by
  have : w = 3 ∨ w = 4 ∨ w = 5 := by omega
  rcases this with e | e | e <;> subst e <;> exact ⟨⟨⟨1, [], rfl, by decide⟩, by decide⟩, rfl, by unfold Bnd; decide⟩
theorem fresh_ {H : Hp} {p : Addr} {o : HO} {G : Hp → Prop} (np : H p = none) (h : ∀ H', Same H H' → H' p = some o → G H') : G (upd H p o) := h _ (same_new np) upd_same
/-- a turning: each place once -/
structure Turn (w : Nat) (ts : List Int) : Prop where
  len : ts.length = w
  lo : ∀ t ∈ ts, 0 ≤ t ∧ t < w
  all : ∀ j, j < w → (j : Int) ∈ ts
def rg (w : Nat) : List Int := (List.range w).map fun i => ((i : Nat) : Int)
theorem rg_rgV (w : Nat) : rgV 0 w = (rg w).map V.int := by
  unfold rgV rg
  rw [Int.sub_zero, Int.toNat_natCast, List.map_map]
  refine List.map_congr_left fun i _ => ?_
  show V.int (0 + (i : Int)) = V.int i
  rw [Int.zero_add]
theorem Turn.cut (w n : Nat) : Turn w ((rg w).drop n ++ (rg w).take n) := by
  have len : (rg w).length = w := by rw [rg, List.length_map, List.length_range]
  have mem : ∀ t, t ∈ (rg w).drop n ++ (rg w).take n ↔ t ∈ rg w := fun t => by
    constructor
    · intro h
      rcases List.mem_append.mp h with z | z
      · exact List.mem_of_mem_drop z
      · exact List.mem_of_mem_take z
    · intro h
      rw [← List.take_append_drop n (rg w)] at h
      exact List.mem_append.mpr (List.mem_append.mp h).symm
  refine ⟨?_, fun t ht => ?_, fun j hj => (mem _).mpr (List.mem_map.mpr ⟨j, List.mem_range.mpr hj, rfl⟩)⟩
  · rw [List.length_append, List.length_drop, List.length_take, len]
    omega
  · obtain ⟨i, hi, rfl⟩ := List.mem_map.mp ((mem t).mp ht)
    have := List.mem_range.mp hi
    omega
theorem Turn.rev {w : Nat} {ts : List Int} (h : Turn w ts) : Turn w ts.reverse :=
  ⟨by rw [List.length_reverse]; exact h.len, fun t ht => h.lo t (List.mem_reverse.mp ht), fun j hj => List.mem_reverse.mpr (h.all j hj)⟩
/-- the entry at k of a beam turned -/
def turnAt (sg ts ns : List Int) (k : Nat) : Int := sg.getD k 0 * ns.getD (ts.getD k 0).toNat 0
def turnL (w : Nat) (sg ts ns : List Int) : List Int := (List.range w).map (turnAt sg ts ns)
theorem turnL_len (w : Nat) (sg ts ns : List Int) : (turnL w sg ts ns).length = w := by rw [turnL, List.length_map, List.length_range]
theorem turn_beam {w : Nat} {sg ts ns : List Int} (ht : Turn w ts) (hs : sg.length = w) (h1 : ∀ s ∈ sg, s.natAbs = 1) (hb : Beam w ns) : Beam w (turnL w sg ts ns) := by
  have sga : ∀ k, k < w → (sg.getD k 0).natAbs = 1 := fun k hk => by
    rw [List.getD_eq_getElem?_getD, List.getElem?_eq_getElem (by omega)]
    exact h1 _ (List.getElem_mem _)
  refine ⟨turnL_len .., fun m hm => ?_, ?_⟩
  · obtain ⟨k, hk, rfl⟩ := List.mem_map.mp hm
    have hk := List.mem_range.mp hk
    show (turnAt sg ts ns k).natAbs ≤ 3
    unfold turnAt
    rw [Int.natAbs_mul, sga k hk, Nat.one_mul]
    rcases Nat.lt_or_ge (ts.getD k 0).toNat ns.length with z | z
    · rw [List.getD_eq_getElem?_getD, List.getElem?_eq_getElem z]
      exact hb.2.1 _ (List.getElem_mem _)
    · rw [List.getD_eq_getElem?_getD (l := ns), List.getElem?_eq_none z]
      exact Nat.zero_le 3
  · obtain ⟨n, hn, h0⟩ := hb.2.2
    obtain ⟨j, hj⟩ := List.getElem?_of_mem hn
    have hjw : j < w := by
      have := (List.getElem?_eq_some_iff.mp hj).1
      have := hb.1
      omega
    obtain ⟨k, hk⟩ := List.getElem?_of_mem (ht.all j hjw)
    have hkw : k < w := by
      have := (List.getElem?_eq_some_iff.mp hk).1
      have := ht.len
      omega
    refine ⟨turnAt sg ts ns k, List.mem_map.mpr ⟨k, List.mem_range.mpr hkw, rfl⟩, fun z => ?_⟩
    have e := congrArg Int.natAbs z
    unfold turnAt at e
    rw [Int.natAbs_mul, sga k hkw, Nat.one_mul, List.getD_eq_getElem?_getD (l := ts), hk] at e
    rw [List.getD_eq_getElem?_getD] at e
    simp only [Option.getD_some, Int.toNat_natCast] at e
    rw [hj] at e
    simp only [Option.getD_some, Int.natAbs_zero] at e
    exact h0 (Int.natAbs_eq_zero.mp e)
theorem getD_at {l : List Int} {k : Nat} (h : k < l.length) : (l.map V.int)[k]? = some (V.int (l.getD k 0)) := by
  rw [List.getElem?_map, List.getD_eq_getElem?_getD, List.getElem?_eq_getElem h]
  rfl
theorem Bnd.small {ns : List Int} (h : Bnd 3 ns) : Sm ns := fun n hn => by
  have := h n hn
  omega
section
variable {P : Program} {w : World} {K : PySem.W.Frag} {mg : Str → Option Value} {base : Heap}
theorem cal_law_part (T : Txt mg) (D : Def K mg "_law_part" s_law_part) (c_law_dip : Cal CX0 P w K mg base "_law_dip" ["_law_spring_here", "_law_limit"] 2 (spDip)) : Cal CX0 P w K mg base "_law_part" ["_law_spring_here", "_law_beams", "_law_many"] 6 (spPart K) := by
  obtain ⟨f_law_dip, fd_law_dip, m_law_dip, k_law_dip, b_law_dip, G_law_dip⟩ := c_law_dip
  refine Cal.make D sc_law_part (fun _ _ _ _ _ _ us hl => match us, hl with | [_, _, _], _ => rfl) (fun vs H Q E h => ?_) (fun f cdv A outer s H vs Q E hr h => ?_)
  · obtain ⟨c, d, l, us, G, rfl, _⟩ := h
    rfl
  refine ⟨_, PSs.nox (pss_cons (ps_set (i := 3) sc_law_part.nd rfl (Or.inl rfl) (pe_call G_law_dip (hr.mono (by decide)) rfl m_law_dip k_law_dip b_law_dip .nil pass0 (pa_cons (pv 0) (pa_cons (pe_callB call_len_seq (by rfl) T.len PySem.boot_len (pa_cons (pv 1) pa_nil)) pa_nil))))
    (pss_cons (ps_setLc (i := 4) (own := [("_law_beam", 5)]) (g := (gName 5)) (by rfl) sc_law_part.nd rfl rfl (sw_true rfl rfl rfl (by decide +kernel)) (pi_list (pe_op op_cat (pe_slice sl_list (pv 1) (po_some (pv 3)) po_none) (pe_slice sl_list (pv 1) po_none (po_some (pv 3))))) (blkOk_by (N := n_law_part) (sc := defScope s_law_part) (by decide +kernel)) (fun _ _ _ _ _ => (pg_name (i := 5) sc_law_part.nd rfl (Or.inl rfl))) (fun _ _ _ _ _ => (pts_one (pt_cmpR op_gt (pe_call G_law_dip (hr.mono (by decide)) rfl m_law_dip k_law_dip b_law_dip .nil pass0 (pa_cons (pv 0) (pa_cons pe_int pa_nil))) pe_int (nomark _)))) (fun _ _ _ _ _ => (pv 5)))
    (pss_one (ps_ret (pe_slice sl_list (pv 4) po_none (po_some (pv 2))))))), ?_⟩
  obtain ⟨c, d, l, us, G, rfl, hS, hl, l0, l9, tu, hq⟩ := h
  refine ⟨_, rfl, _, rfl, l, _, rfl, .inl (.of hl), c, d, _, rfl, hS, by omega, by omega, fun n H1 n0 n1 s1 x1 => ?_⟩
  have hl1 := x1.lst hl
  refine ⟨_, rfl, _, rfl, n, rfl, l, _, rfl, .of hl1, fun a na => ?_⟩
  have sa : Same H1 (upd H1 a (.lst (cutV us (some n) none))) := same_new na
  refine ⟨_, rfl, _, rfl, n, rfl, l, _, rfl, .of (sa _ _ hl1), fun b nb => ?_⟩
  have sb := sa.trans (same_new (o := .lst (cutV us none (some n))) nb)
  refine ⟨a, b, _, _, rfl, rfl, by rw [upd_ne (ne_of_none upd_same nb)]; exact upd_same, upd_same, ?_, fun e ne => ?_⟩
  · have := cutV_length us (some n) none
    have := cutV_length us none (some n)
    rw [sizeLine_eq]
    omega
  have se := sb.trans (same_new (o := .lst (cutV us (some n) none ++ cutV us none (some n))) ne)
  generalize eH : upd (upd (upd H1 a (.lst (cutV us (some n) none))) b (.lst (cutV us none (some n)))) e (.lst (cutV us (some n) none ++ cutV us none (some n))) = H2 at se
  have he : H2 e = some (.lst (cutV us (some n) none ++ cutV us none (some n))) := by rw [← eH]; exact upd_same
  have s2 := s1.same se
  have t2 : TupsAt K H2 (cutV us (some n) none ++ cutV us none (some n)) G := (((tu.exd x1).same se).sub fun v hv => cut_mem hv).app (((tu.exd x1).same se).sub fun v hv => cut_mem hv)
  have len2 : (cutV us (some n) none ++ cutV us none (some n)).length ≤ 200 := by
    rw [List.length_append]
    have := cutV_length us (some n) none
    have := cutV_length us none (some n)
    omega
  generalize cutV us (some n) none ++ cutV us none (some n) = ys at he t2 len2
  refine ⟨e, rfl, ⟨_, .of he⟩, fun D hD => ?_⟩
  refine lc_list (K := K) (a := e) (xs := ys) (LcX H2 D c d fun _ zs H' => TupsAt K H' zs G) (LcX.start hD s2 fun _ => TupsAt.nil) (fun i H3 _ p => .of (p.1.lst he)) ?_ ?_
  · rintro i v H3 hi ⟨x3, s3, zs, ez, tz, lz⟩
    have hil : i < ys.length := (List.getElem?_eq_some_iff.mp hi).1
    obtain ⟨av, ns, rfl, hav, hg⟩ := t2 v (List.mem_of_getElem? hi)
    refine ⟨rfl, _, rfl, c, d, 4, rfl, s3, by decide, by decide, fun m H4 m0 m1 s4 x4 => ⟨_, _, rfl, rfl, _, rfl, ?_⟩⟩
    refine ite2 (fun _ => ?_) (fun _ => ?_)
    · refine ⟨_, rfl, LcX.yes (x3.trans x4) s2 s4 hD (x4.lst ez) lz (by omega) (((tz.exd x4).snoc ((x3.trans x4).t hav) hg).put (x4.lst ez))⟩
    · exact LcX.no (x3.trans x4) s4 (x4.lst ez) lz (tz.exd x4)
  · rintro H3 ⟨x3, s3, zs, ez, tz, lz⟩
    refine ⟨_, rfl, _, rfl, 12, rfl, D, _, rfl, .of ez, fun p np => ?_⟩
    have sp := same_new (o := .lst (cutV zs none (some 12))) np
    refine hq p _ _ (s3.same sp) (((x1.trans (ExD.of se)).trans x3).trans (ExD.of sp)) upd_same ?_ ((tz.same sp).sub fun v hv => cut_mem hv)
    rw [show (12 : Int) = ((12 : Nat) : Int) from rfl, cut_to, List.length_take]
    omega

theorem cal_law_turned (T : Txt mg) (D : Def K mg "_law_turned" s_law_turned) (c_law_dip : Cal CX0 P w K mg base "_law_dip" ["_law_spring_here", "_law_limit"] 2 (spDip)) (c_law_made : Cal CX0 P w K mg base "_law_made" ["_law_entries"] 6 (spMade K)) : Cal CX0 P w K mg base "_law_turned" ["_law_spring_here", "_law_heap_here"] 8 (spTurned K) := by
  obtain ⟨f_law_dip, fd_law_dip, m_law_dip, k_law_dip, b_law_dip, G_law_dip⟩ := c_law_dip
  obtain ⟨f_law_made, fd_law_made, m_law_made, k_law_made, b_law_made, G_law_made⟩ := c_law_made
  refine Cal.make D sc_law_turned (fun _ _ _ _ _ _ us hl => match us, hl with | [_, _], _ => rfl) (fun vs H Q E h => ?_) (fun f cdv A outer s H vs Q E hr h => ?_)
  · obtain ⟨c, d, h, b, wd, us, rfl, _⟩ := h
    rfl
  refine ⟨_, PSs.nox (pss_cons (ps_asg (pv 1) (pg_tup rfl (pgs_cons (pg_name (i := 7) sc_law_turned.nd rfl (Or.inl rfl)) (pgs_cons (pg_name (i := 8) sc_law_turned.nd rfl (Or.inl rfl)) pgs_nil))))
    (pss_cons (ps_set (i := 2) sc_law_turned.nd rfl (Or.inl rfl) (pe_call G_law_dip (hr.mono (by decide)) rfl m_law_dip k_law_dip b_law_dip .nil pass0 (pa_cons (pv 0) (pa_cons (pv 7) pa_nil))))
    (pss_cons (ps_set (i := 3) sc_law_turned.nd rfl (Or.inr rfl) (pe_op op_cat (pe_slice sl_list (pe_listRg rfl (by rfl) T.list (prg_1 (by rfl) T.range (pv 7))) (po_some (pv 2)) po_none) (pe_slice sl_list (pe_listRg rfl (by rfl) T.list (prg_1 (by rfl) T.range (pv 7))) po_none (po_some (pv 2)))))
    (Evl.pss_cut (ps_set (i := 3) sc_law_turned.nd rfl (Or.inr rfl) (pe_ifExp (pt_cmpR op_eq (pe_call G_law_dip (hr.mono (by decide)) rfl m_law_dip k_law_dip b_law_dip .nil pass0 (pa_cons (pv 0) (pa_cons pe_int pa_nil))) pe_int (nomark _)) (pe_revL (pv 3)) (pv 3)))
    (pss_cons (ps_set (i := 4) sc_law_turned.nd rfl (Or.inr rfl) (pe_lc (own := [("_law_k", 9)]) (g := (gName 9)) rfl sc_law_turned.nd (pi_range1 (by rfl) T.range (pa_cons (pv 7) pa_nil)) (blkOk_by (N := n_law_turned) (sc := defScope s_law_turned) (by decide +kernel)) (fun _ _ _ _ _ => (pg_name (i := 9) sc_law_turned.nd rfl (Or.inl rfl))) (fun _ _ _ _ _ => pts_nil) (fun _ _ _ _ _ => (pe_ifExp (pt_cmpR op_eq (pe_call G_law_dip (hr.mono (by decide)) rfl m_law_dip k_law_dip b_law_dip .nil pass0 (pa_cons (pv 0) (pa_cons pe_int pa_nil))) pe_int (nomark _)) pe_int (pe_un un_neg pe_int)))))
    (pss_cons (ps_set (i := 5) sc_law_turned.nd rfl (Or.inl rfl) (pe_lst pa_nil))
    (pss_cons (ps_for PassesOwn.never rfl (pi_tup (pv 8)) (pg_name (i := 6) sc_law_turned.nd rfl (Or.inr rfl))
      (pss_one (ps_expr (pe_bm PySem.F.plainAttrs_list PySem.F.slot_list_append PySem.F.type_list_append mt_append (pv 5) (pa_cons (pe_call G_law_made (hr.mono (by decide)) rfl m_law_made k_law_made b_law_made .nil pass0 (pa_cons (pe_lc (own := [("_law_k", 9)]) (g := (gName 9)) rfl sc_law_turned.nd (pi_range1 (by rfl) T.range (pa_cons (pv 7) pa_nil)) (blkOk_by (N := n_law_turned) (sc := defScope s_law_turned) (by decide +kernel)) (fun _ _ _ _ _ => (pg_name (i := 9) sc_law_turned.nd rfl (Or.inl rfl))) (fun _ _ _ _ _ => pts_nil) (fun _ _ _ _ _ => (pe_op op_mul (pe_ix (ix_listK (K := K) rfl) (pv 4) (pv 9) (fun _ _ => rfl)) (pe_ix (ix_tupK (K := K) rfl) (pv 6) (pe_ix (ix_listK (K := K) rfl) (pv 3) (pv 9) (fun _ _ => rfl)) (fun _ _ => rfl))))) pa_nil)) pa_nil)))))
    (pss_one (ps_ret (pe_tup (pa_cons (pv 7) (pa_cons (pe_callTy call_tuple_of (by rfl) T.tuple (by decide +kernel) (pa_cons (pe_callB (cr_sortedSK (K := K) (P := P) (w := w) rfl rfl rfl rfl) (by rfl) T.sorted (by decide +kernel) (pa_cons (pe_callTy (cr_setOfTK (K := K) (P := P) (w := w) rfl rfl rfl rfl hr.units) (by rfl) T.set (by decide +kernel) (pa_cons (pv 5) pa_nil)) pa_nil)) pa_nil)) pa_nil)))))))))))), ?_⟩
  obtain ⟨c, d, h, b, wd, us, rfl, hS, hh, hb, w2, w5, l9, tu, hq⟩ := h
  refine ⟨_, rfl, h, _, rfl, hh, rfl, _, _, rfl, _, _, rfl, rfl, ?_⟩
  refine ⟨_, rfl, _, rfl, c, d, wd, rfl, hS, by omega, by omega, fun n H1 n0 n1 s1 x1 => ?_⟩
  obtain ⟨cut, rfl⟩ := Int.eq_ofNat_of_zero_le n0
  -- the turning
  refine ⟨_, rfl, wd, rfl, RgOk.of_le (by omega) (by omega) (by omega) (by omega), fun r1 nr1 => ?_⟩
  generalize e2 : upd H1 r1 (.lst (rgV 0 wd)) = H2
  have s2 : Same H1 H2 := by rw [← e2]; exact same_new nr1
  have a2 : H2 r1 = some (.lst (rgV 0 wd)) := by rw [← e2]; exact upd_same
  rw [rg_rgV] at a2
  refine ⟨_, rfl, cut, rfl, r1, _, rfl, .of a2, fun r2 nr2 => ?_⟩
  rw [cut_from, ← List.map_drop]
  generalize e3 : upd H2 r2 (.lst (((rg wd).drop cut).map V.int)) = H3
  have s3 : Same H2 H3 := by rw [← e3]; exact same_new nr2
  have a3 : H3 r2 = some (.lst (((rg wd).drop cut).map V.int)) := by rw [← e3]; exact upd_same
  refine ⟨_, rfl, wd, rfl, RgOk.of_le (by omega) (by omega) (by omega) (by omega), fun r3 nr3 => ?_⟩
  generalize e4 : upd H3 r3 (.lst (rgV 0 wd)) = H4
  have s4 : Same H3 H4 := by rw [← e4]; exact same_new nr3
  have a4 : H4 r3 = some (.lst (rgV 0 wd)) := by rw [← e4]; exact upd_same
  rw [rg_rgV] at a4
  refine ⟨_, rfl, cut, rfl, r3, _, rfl, .of a4, fun r4 nr4 => ?_⟩
  rw [cut_to, ← List.map_take]
  generalize e5 : upd H4 r4 (.lst (((rg wd).take cut).map V.int)) = H5
  have s5 : Same H4 H5 := by rw [← e5]; exact same_new nr4
  have a5 : H5 r4 = some (.lst (((rg wd).take cut).map V.int)) := by rw [← e5]; exact upd_same
  have tn := Turn.cut wd cut
  refine ⟨r2, r4, _, _, rfl, rfl, s5 _ _ (s4 _ _ a3), a5, ?_, fun r5 nr5 => ?_⟩
  · rw [← List.length_append, ← List.map_append, List.length_map, tn.len, sizeLine_eq]
    omega
  rw [← List.map_append]
  generalize e6 : upd H5 r5 (.lst (((rg wd).drop cut ++ (rg wd).take cut).map V.int)) = H6
  have s6 : Same H5 H6 := by rw [← e6]; exact same_new nr5
  have a6 : H6 r5 = some (.lst (((rg wd).drop cut ++ (rg wd).take cut).map V.int)) := by rw [← e6]; exact upd_same
  have S6 : Same H1 H6 := (((s2.trans s3).trans s4).trans s5).trans s6
  generalize (rg wd).drop cut ++ (rg wd).take cut = ts at a6 tn
  -- turned round or not
  refine ⟨fun σ' H' => ∃ (t : Addr) (ts : List Int), σ' = [some (.ref d), some (.ref h), some (.int cut), some (.ref t), none, none, none, some (.int wd), some (.ref b), none] ∧ ExD H H' ∧ SprAt H' c d ∧ H' t = some (.lst (ts.map V.int)) ∧ Turn wd ts, ?_, ?_⟩
  · refine ⟨_, rfl, c, d, 2, rfl, s1.same S6, by decide, by decide, fun m H7 m0 m1 s7 x7 => ⟨rfl, _, rfl, ?_⟩⟩
    have X7 : ExD H H7 := (x1.trans (ExD.of S6)).trans x7
    refine ite2 (fun _ => ?_) (fun _ => ?_)
    · refine ⟨_, rfl, r5, _, rfl, .of (x7.lst a6), fun p np => ⟨p, ts.reverse, rfl, X7.trans (ExD.of (same_new np)), s7.same (same_new np), ?_, tn.rev⟩⟩
      rw [List.map_reverse]
      exact upd_same
    · exact ⟨_, rfl, r5, ts, rfl, X7, s7, x7.lst a6, tn⟩
  rintro σ' H7 ⟨t, ts, rfl, X7, S7, at7, tn⟩
  -- the signs
  refine ⟨_, rfl, wd, rfl, by omega, by omega, fun D hD => ?_⟩
  refine lc_range (lo := 0) (n := wd) (LcX H7 D c d fun i ys _ => ∃ sg : List Int, ys = sg.map V.int ∧ sg.length = i ∧ ∀ s ∈ sg, s.natAbs = 1) (LcX.start hD S7 fun _ => ⟨[], rfl, rfl, fun s hs => absurd hs (by simp)⟩) ?_ ?_
  · rintro i H8 hi ⟨x8, s8, ys, ey, ⟨sg, rfl, lg, hg⟩, ly⟩
    have more : ∀ (z : Int) (H9 : Hp), z.natAbs = 1 → ∃ sg' : List Int, sg.map V.int ++ [V.int z] = sg'.map V.int ∧ sg'.length = i + 1 ∧ ∀ s ∈ sg', s.natAbs = 1 := fun z H9 hz =>
      ⟨sg ++ [z], by rw [List.map_append] <;> rfl, by rw [List.length_append, lg] <;> rfl, fun s hs => (List.mem_append.mp hs).elim (hg s) fun e => by rw [List.mem_singleton.mp e]; exact hz⟩
    refine ⟨rfl, _, rfl, c, d, 2, rfl, s8, by decide, by decide, fun m H9 m0 m1 s9 x9 => ⟨rfl, _, rfl, ?_⟩⟩
    refine ite2 (fun _ => ?_) (fun _ => ⟨_, rfl, ?_⟩)
    · exact LcX.yes (x8.trans x9) S7 s9 hD (x9.lst ey) ly (by omega) (more 1 H9 rfl)
    · exact LcX.yes (x8.trans x9) S7 s9 hD (x9.lst ey) ly (by omega) (more (-1) H9 rfl)
  rintro H8 ⟨x8, S8, ys, a8, ⟨sg, rfl, lg, hg⟩, ly⟩
  have X8 : ExD H H8 := X7.trans x8
  have t8 : H8 t = some (.lst (ts.map V.int)) := x8.lst at7
  -- the beams
  refine ⟨Nat.zero_le _, fun f nf => ?_⟩
  generalize e9 : upd H8 f (.lst []) = H9
  have s9 : Same H8 H9 := by rw [← e9]; exact same_new nf
  have a9 : H9 f = some (.lst []) := by rw [← e9]; exact upd_same
  have hb9 : SqT K H9 b us := same_t s9 (X8.t hb)
  have tu9 : TupsAt K H9 us (Beam wd) := (tu.exd X8).same s9
  refine ⟨_, rfl, b, rfl, ⟨_, hb9⟩, for_tup (K := K) (a := b) (xs := us) (fun i σ' H' => ∃ (ws : List V) (y : Option V), σ' = [some (.ref d), some (.ref h), some (.int cut), some (.ref t), some (.ref D), some (.ref f), y, some (.int wd), some (.ref b), none] ∧ Same H8 H' ∧ H' f = some (.lst ws) ∧ TupsAt K H' ws (Ray wd) ∧ ws.length = i)
    ⟨[], none, rfl, s9, a9, TupsAt.nil, rfl⟩ (fun i σ' H' _ p => ?_) ?_ ?_⟩
  · obtain ⟨_, _, _, s, _⟩ := p
    exact same_t s (X8.t hb)
  · rintro i v σ' H' hi ⟨ws, y, rfl, sw, hf, tw, lw⟩
    have hil : i < us.length := (List.getElem?_eq_some_iff.mp hi).1
    obtain ⟨av, ns, rfl, hav, hbeam⟩ := (tu.exd X8) v (List.mem_of_getElem? hi)
    have hav := same_t sw hav
    have tl := turn_beam tn lg hg hbeam
    refine ⟨_, rfl, .inl ⟨rfl, _, .of hf⟩, _, rfl, wd, rfl, by omega, by omega, fun D2 hD2 => ?_⟩
    refine lc_range (lo := 0) (n := wd) (LcP H' D2 fun k => ((turnL wd sg ts ns).take k).map V.int) (LcP.start hD2 rfl) ?_ ?_
    · intro k H10 hk p
      have hk1 : k < sg.length := by omega
      have hk2 : k < ts.length := by have := tn.len; omega
      have ht := tn.lo (ts.getD k 0) (by rw [List.getD_eq_getElem?_getD, List.getElem?_eq_getElem hk2]; exact List.getElem_mem _)
      obtain ⟨j, hj⟩ := Int.eq_ofNat_of_zero_le ht.1
      have hj3 : j < ns.length := by have := hbeam.1; omega
      have k0 : (0 : Int) + (k : Nat) = (k : Nat) := by omega
      rw [k0]
      refine ⟨rfl, _, rfl, _, rfl, D, _, k, _, rfl, rfl, .of (p.1 _ _ (sw _ _ a8)), atI_nat (getD_at hk1), _, rfl, _, rfl, _, rfl, t, _, k, _, rfl, rfl, .of (p.1 _ _ (sw _ _ t8)), atI_nat (getD_at hk2), av, ns.map V.int, ts.getD k 0, V.int (ns.getD j 0), rfl, rfl, same_t p.1 hav, ?_, sg.getD k 0, ns.getD j 0, rfl, rfl, .inl ?_, ?_⟩
      · rw [hj]
        exact atI_nat (getD_at hj3)
      · have : (sg.getD k 0).natAbs = 1 := by
          rw [List.getD_eq_getElem?_getD, List.getElem?_eq_getElem hk1]
          exact hg _ (List.getElem_mem _)
        omega
      · refine p.yes hD2 (Same.refl _) ?_ (Nat.lt_of_le_of_lt (map_take_len _ _ _) (by rw [turnL_len]; omega))
        refine (map_take_next (x := turnAt sg ts ns k) ?_).trans ?_
        · rw [turnL, List.getElem?_map, List.getElem?_range hk]
          rfl
        · unfold turnAt
          rw [hj]
          rfl
    · intro H10 p
      have e10 : H10 D2 = some (.lst ((turnL wd sg ts ns).map V.int)) := p.at_ (by rw [List.take_of_length_le]; rw [turnL_len]; exact Nat.le_refl _)
      refine ⟨D2, _, rfl, .of e10, Fits.of_bnd tl.2.1 (by decide), tl.2.2, by rw [turnL_len]; omega, fun q H11 s11 hq11 => ?_⟩
      have ray : Ray wd (madeL (turnL wd sg ts ns)) := ⟨by rw [madeL, List.length_map, turnL_len], made_bnd tl.2.2 tl.2.1, made_ok tl.2.2⟩
      have hf11 := s11 _ _ (p.1 _ _ hf)
      refine ⟨f, _, _, rfl, rfl, hf11, small1000 (by omega), ?_⟩
      exact ⟨_, _, rfl, same_put ((sw.trans p.1).trans s11) nf, upd_same, ((((tw.same p.1).same s11).snoc (.of hq11) ray).put hf11), by rw [List.length_append, lw] <;> rfl⟩
  · rintro σ' H' ⟨ws, y, rfl, sw, hf, tw, lw⟩
    obtain ⟨ks, rfl, hks⟩ := tw.keys
    refine ⟨_, rfl, _, rfl, f, ks, rfl, .of hf, fun p hp => (hks p hp).1, by rw [List.length_map] at lw; omega, fun a L na sub cover => ?_⟩
    generalize e12 : upd H' a (SetTO P w a L) = H12
    have s12 : Same H' H12 := by rw [← e12]; exact same_new na
    have a12 : H12 a = some (SetTO P w a L) := by rw [← e12]; exact upd_same
    refine ⟨a, L, wd, rfl, a12, fun p hp => same_t s12 (hks p (sub p hp)).1, by omega, fun p hp => ⟨(hks p (sub p hp)).2.1, (hks p (sub p hp)).2.2.1.small⟩, fun kk q nd perm l64 nq => ?_⟩
    generalize e13 : upd H12 q (.lst (kk.map V.ref)) = H13
    have s13 : Same H12 H13 := by rw [← e13]; exact same_new nq
    have a13 : H13 q = some (.lst (kk.map V.ref)) := by rw [← e13]; exact upd_same
    have tk : TupsAt K H13 (kk.map V.ref) (Ray wd) := fun v hv => by
      obtain ⟨k, hk, rfl⟩ := List.mem_map.mp hv
      obtain ⟨p, hp, rfl⟩ := List.mem_map.mp (perm.mem_iff.mp hk)
      exact ⟨p.1, p.2, rfl, same_t (s12.trans s13) (hks p (sub p hp)).1, (hks p (sub p hp)).2⟩
    refine ⟨q, _, rfl, .inl ⟨.of a13, fun t2 nt => ⟨by show 2 ≤ sizeLine; decide, fun l nl => ?_⟩⟩⟩
    have sf : Same H13 (upd (upd H13 t2 (.tup (kk.map V.ref))) l (.tup [.int wd, .ref t2])) := same_add (same_new nt) nl
    obtain ⟨rs, hr, hg2⟩ := (tk.same sf).rays
    refine hq l rs _ ((S8.same sw).same ((s12.trans s13).trans sf)) (X8.trans (ExD.of (sw.trans ((s12.trans s13).trans sf)))) ⟨t2, _, .of upd_same, .of (by rw [upd_ne (ne_of_none upd_same nl)]; exact upd_same), hr⟩ ?_ hg2
    rw [← hr.1, List.length_map, perm.length_eq, List.length_map]
    have := pigeon L ks nd sub
    rw [List.length_map] at lw
    omega

end
end RM
namespace RM
open PySem PySem.Spec PyProof.Rows L2
theorem DisT.par2 {K : PySem.W.Frag} {t : TA} {rs : List (List Int)} {i j : Nat} {k : Int} {D : Ends} {σ : L2.St} {H : Hp} (h : DisT K t rs) (hn : rs.length ≤ 1000)
    (q : ∀ l us H', Same H H' → H' l = some (.lst us) → RaysAt K H' us rs → D.nx ((σ.set i (some (.int k))).set j (some (.ref l))) H') : tPar i j (tCons (tC (.int k)) (tCons (tLst t) tNil)) D σ H :=
  h σ H _ fun vs H1 s1 hr => ⟨by rw [hr.1, sizeLine_eq]; omega, fun p np => ⟨_, _, rfl, q p vs _ (same_add s1 np) upd_same (hr.same (same_new np))⟩⟩
def heap0 : List (List Int) := [[0, 1], [1, -2], [1, -1], [1, 0], [1, 1], [2, 1], [1, 3], [3, -1]]
def heap1 : List (List Int) := [[1, 1, 1], [1, -1, 1], [2, 1, 0], [1, -2, 0]]
def heap3 : List (List Int) := [[1, 1, 2], [1, 1, -2], [2, -1, 1], [1, 2, 0], [0, 1, 2], [0, 2, -1]]
def heap6 : List (List Int) := [[1, 1, 0, 0], [1, -1, 0, 0], [0, 0, 1, 1], [0, 0, 1, -1], [1, 1, 1, 1], [1, 1, -1, -1]]
def heap7 : List (List Int) := [[1, 1, 0, 0, 0], [1, -1, 0, 0, 0], [0, 0, 1, 1, 0], [0, 0, 1, -1, 0], [0, 0, 1, 0, 2]]
theorem beam0 : ∀ r ∈ heap0, Beam 2 r := by unfold Beam Bnd Nz; decide
theorem beam1 : ∀ r ∈ heap1, Beam 3 r := by unfold Beam Bnd Nz; decide
theorem beam3 : ∀ r ∈ heap3, Beam 3 r := by unfold Beam Bnd Nz; decide
theorem beam6 : ∀ r ∈ heap6, Beam 4 r := by unfold Beam Bnd Nz; decide
theorem beam7 : ∀ r ∈ heap7, Beam 5 r := by unfold Beam Bnd Nz; decide
theorem beam9 : ∀ r ∈ nineL, Beam 3 r := by unfold Beam Bnd Nz; decide
theorem beam18 : ∀ r ∈ (eightA ++ eightB) ++ eightC, Beam 4 r := by unfold Beam Bnd Nz; decide
theorem beamA4 : ∀ r ∈ axesL 4, Beam 4 r := by unfold Beam Bnd Nz; decide
theorem beamA5 : ∀ r ∈ axesL 5, Beam 5 r := by unfold Beam Bnd Nz; decide
section
variable {P : Program} {w : World} {K : PySem.W.Frag} {mg : Str → Option Value} {base : Heap}
theorem cal_law_heap (T : Txt mg) (D : Def K mg "_law_heap" s_law_heap) (c_law_dip : Cal CX0 P w K mg base "_law_dip" ["_law_spring_here", "_law_limit"] 2 (spDip)) (c_law_nine : Cal CX0 P w K mg base "_law_nine" [] 2 (spNine K)) (c_law_eighteen : Cal CX0 P w K mg base "_law_eighteen" [] 2 (spEighteen K)) (c_law_all : Cal CX0 P w K mg base "_law_all" ["_law_wide", "_law_most"] 8 (spAll K)) (c_law_axes : Cal CX0 P w K mg base "_law_axes" ["_law_wide"] 2 (spAxes K)) (c_law_part : Cal CX0 P w K mg base "_law_part" ["_law_spring_here", "_law_beams", "_law_many"] 6 (spPart K)) (c_law_turned : Cal CX0 P w K mg base "_law_turned" ["_law_spring_here", "_law_heap_here"] 8 (spTurned K)) : Cal CX0 P w K mg base "_law_heap" ["_law_spring_here", "_law_many"] 12 (spHeap K) := by
  obtain ⟨f_law_dip, fd_law_dip, m_law_dip, k_law_dip, b_law_dip, G_law_dip⟩ := c_law_dip
  obtain ⟨f_law_nine, fd_law_nine, m_law_nine, k_law_nine, b_law_nine, G_law_nine⟩ := c_law_nine
  obtain ⟨f_law_eighteen, fd_law_eighteen, m_law_eighteen, k_law_eighteen, b_law_eighteen, G_law_eighteen⟩ := c_law_eighteen
  obtain ⟨f_law_all, fd_law_all, m_law_all, k_law_all, b_law_all, G_law_all⟩ := c_law_all
  obtain ⟨f_law_axes, fd_law_axes, m_law_axes, k_law_axes, b_law_axes, G_law_axes⟩ := c_law_axes
  obtain ⟨f_law_part, fd_law_part, m_law_part, k_law_part, b_law_part, G_law_part⟩ := c_law_part
  obtain ⟨f_law_turned, fd_law_turned, m_law_turned, k_law_turned, b_law_turned, G_law_turned⟩ := c_law_turned
  refine Cal.make D sc_law_heap (fun _ _ _ _ _ _ us hl => match us, hl with | [_, _], _ => rfl) (fun vs H Q E h => ?_) (fun f cdv A outer s H vs Q E hr h => ?_)
  · obtain ⟨c, d, rfl, _⟩ := h
    rfl
  refine ⟨_, PSs.nox (pss_cons (ps_set (i := 2) sc_law_heap.nd rfl (Or.inl rfl) (pe_call G_law_dip (hr.mono (by decide)) rfl m_law_dip k_law_dip b_law_dip .nil pass0 (pa_cons (pv 0) (pa_cons pe_int pa_nil))))
    (Evl.pss_cut (ps_if (pt_cmpR op_eq (pv 2) pe_int (nomark _)) (pss_one (ps_par (i := 3) (j := 4) (by rfl) sc_law_heap.nd rfl rfl (by decide) rfl rfl (pa_cons pe_int (pa_cons (pe_lst (pa_cons (pe_tup (pa_cons pe_int (pa_cons pe_int pa_nil))) (pa_cons (pe_tup (pa_cons pe_int (pa_cons (pe_un un_neg pe_int) pa_nil))) (pa_cons (pe_tup (pa_cons pe_int (pa_cons (pe_un un_neg pe_int) pa_nil))) (pa_cons (pe_tup (pa_cons pe_int (pa_cons pe_int pa_nil))) (pa_cons (pe_tup (pa_cons pe_int (pa_cons pe_int pa_nil))) (pa_cons (pe_tup (pa_cons pe_int (pa_cons pe_int pa_nil))) (pa_cons (pe_tup (pa_cons pe_int (pa_cons pe_int pa_nil))) (pa_cons (pe_tup (pa_cons pe_int (pa_cons (pe_un un_neg pe_int) pa_nil))) pa_nil))))))))) pa_nil)) (by rfl))) (pss_one (ps_if (pt_cmpR op_lt (pv 2) pe_int (nomark _)) (pss_one (ps_par (i := 3) (j := 4) (by rfl) sc_law_heap.nd rfl rfl (by decide) rfl rfl (pa_cons pe_int (pa_cons (pe_op op_cat (pe_callTy call_list_of (by rfl) T.list (by decide +kernel) (pa_cons (pe_ix ix_tup (pe_call0 G_law_nine (hr.mono (by decide)) rfl m_law_nine k_law_nine b_law_nine .nil pass0) pe_int (fun _ _ => rfl)) pa_nil)) (pe_lst (pa_cons (pe_tup (pa_cons pe_int (pa_cons pe_int (pa_cons pe_int pa_nil)))) (pa_cons (pe_tup (pa_cons pe_int (pa_cons (pe_un un_neg pe_int) (pa_cons pe_int pa_nil)))) (pa_cons (pe_tup (pa_cons pe_int (pa_cons pe_int (pa_cons pe_int pa_nil)))) (pa_cons (pe_tup (pa_cons pe_int (pa_cons (pe_un un_neg pe_int) (pa_cons pe_int pa_nil)))) pa_nil)))))) pa_nil)) (by rfl))) (pss_one (ps_if (pt_cmpR op_eq (pv 2) pe_int (nomark _)) (pss_one (ps_par (i := 3) (j := 4) (by rfl) sc_law_heap.nd rfl rfl (by decide) rfl rfl (pa_cons pe_int (pa_cons (pe_op op_cat (pe_call G_law_all (hr.mono (by decide)) rfl m_law_all k_law_all b_law_all .nil pass0 (pa_cons pe_int (pa_cons pe_int pa_nil))) (pe_lst (pa_cons (pe_tup (pa_cons pe_int (pa_cons pe_int (pa_cons pe_int pa_nil)))) (pa_cons (pe_tup (pa_cons pe_int (pa_cons pe_int (pa_cons (pe_un un_neg pe_int) pa_nil)))) (pa_cons (pe_tup (pa_cons pe_int (pa_cons (pe_un un_neg pe_int) (pa_cons pe_int pa_nil)))) (pa_cons (pe_tup (pa_cons pe_int (pa_cons pe_int (pa_cons pe_int pa_nil)))) (pa_cons (pe_tup (pa_cons pe_int (pa_cons pe_int (pa_cons pe_int pa_nil)))) (pa_cons (pe_tup (pa_cons pe_int (pa_cons pe_int (pa_cons (pe_un un_neg pe_int) pa_nil)))) pa_nil)))))))) pa_nil)) (by rfl))) (pss_one (ps_if (pt_cmpR op_lt (pv 2) pe_int (nomark _)) (pss_one (ps_par (i := 3) (j := 4) (by rfl) sc_law_heap.nd rfl rfl (by decide) rfl rfl (pa_cons pe_int (pa_cons (pe_callTy call_list_of (by rfl) T.list (by decide +kernel) (pa_cons (pe_ix ix_tup (pe_call0 G_law_eighteen (hr.mono (by decide)) rfl m_law_eighteen k_law_eighteen b_law_eighteen .nil pass0) pe_int (fun _ _ => rfl)) pa_nil)) pa_nil)) (by rfl))) (pss_one (ps_if (pt_cmpR op_eq (pv 2) pe_int (nomark _)) (pss_one (ps_par (i := 3) (j := 4) (by rfl) sc_law_heap.nd rfl rfl (by decide) rfl rfl (pa_cons pe_int (pa_cons (pe_op op_cat (pe_call G_law_axes (hr.mono (by decide)) rfl m_law_axes k_law_axes b_law_axes .nil pass0 (pa_cons pe_int pa_nil)) (pe_lst (pa_cons (pe_tup (pa_cons pe_int (pa_cons pe_int (pa_cons pe_int (pa_cons pe_int pa_nil))))) (pa_cons (pe_tup (pa_cons pe_int (pa_cons (pe_un un_neg pe_int) (pa_cons pe_int (pa_cons pe_int pa_nil))))) (pa_cons (pe_tup (pa_cons pe_int (pa_cons pe_int (pa_cons pe_int (pa_cons pe_int pa_nil))))) (pa_cons (pe_tup (pa_cons pe_int (pa_cons pe_int (pa_cons pe_int (pa_cons (pe_un un_neg pe_int) pa_nil))))) (pa_cons (pe_tup (pa_cons pe_int (pa_cons pe_int (pa_cons pe_int (pa_cons pe_int pa_nil))))) (pa_cons (pe_tup (pa_cons pe_int (pa_cons pe_int (pa_cons (pe_un un_neg pe_int) (pa_cons (pe_un un_neg pe_int) pa_nil))))) pa_nil)))))))) pa_nil)) (by rfl))) (pss_one (ps_par (i := 3) (j := 4) (by rfl) sc_law_heap.nd rfl rfl (by decide) rfl rfl (pa_cons pe_int (pa_cons (pe_op op_cat (pe_call G_law_axes (hr.mono (by decide)) rfl m_law_axes k_law_axes b_law_axes .nil pass0 (pa_cons pe_int pa_nil)) (pe_lst (pa_cons (pe_tup (pa_cons pe_int (pa_cons pe_int (pa_cons pe_int (pa_cons pe_int (pa_cons pe_int pa_nil)))))) (pa_cons (pe_tup (pa_cons pe_int (pa_cons (pe_un un_neg pe_int) (pa_cons pe_int (pa_cons pe_int (pa_cons pe_int pa_nil)))))) (pa_cons (pe_tup (pa_cons pe_int (pa_cons pe_int (pa_cons pe_int (pa_cons pe_int (pa_cons pe_int pa_nil)))))) (pa_cons (pe_tup (pa_cons pe_int (pa_cons pe_int (pa_cons pe_int (pa_cons (pe_un un_neg pe_int) (pa_cons pe_int pa_nil)))))) (pa_cons (pe_tup (pa_cons pe_int (pa_cons pe_int (pa_cons pe_int (pa_cons pe_int (pa_cons pe_int pa_nil)))))) pa_nil))))))) pa_nil)) (by rfl))))))))))))
    (pss_one (ps_ret (pe_call G_law_turned (hr.mono (by decide)) rfl m_law_turned k_law_turned b_law_turned .nil pass0 (pa_cons (pv 0) (pa_cons (pe_tup (pa_cons (pv 3) (pa_cons (pe_callTy call_tuple_of (by rfl) T.tuple (by decide +kernel) (pa_cons (pe_call G_law_part (hr.mono (by decide)) rfl m_law_part k_law_part b_law_part .nil pass0 (pa_cons (pv 0) (pa_cons (pv 4) (pa_cons (pv 1) pa_nil)))) pa_nil)) pa_nil))) pa_nil))))))), ?_⟩
  obtain ⟨c, d, rfl, hS, hq⟩ := h
  refine ⟨_, rfl, c, d, 8, rfl, hS, by decide, by decide, fun n H1 n0 n1 S1 x1 => ?_⟩
  refine ⟨fun σ' H' => ∃ (l : Addr) (us : List V) (wd : Nat), σ' = [some (.ref d), some (.int 12), some (.int n), some (.int wd), some (.ref l)] ∧ Same H1 H' ∧ H' l = some (.lst us) ∧ 0 < us.length ∧ us.length ≤ 100 ∧ TupsAt K H' us (Beam wd) ∧ 2 ≤ wd ∧ wd ≤ 5, ?_, ?_⟩
  · refine ⟨_, rfl, rfl, _, rfl, ?_⟩
    refine ite2 (fun _ => ?_) (fun _ => ?_)
    · refine DisT.par2 (K := K) (rs := heap0) ?_ (by decide) fun l us H2 s2 e2 r2 => ?_
      · exact (by repeat (first | exact DisT.nil | (refine DisT.cons ?_ (by decide) ?_; (repeat (first | exact DisI.nil | apply DisI.neg | apply DisI.pos)))))
      · exact ⟨l, us, 2, rfl, s2, e2, by rw [r2.1]; decide, by rw [r2.1]; decide, .of_rays r2 beam0, by decide, by decide⟩
    refine ⟨_, rfl, _, _, rfl, rfl, _, rfl, ?_⟩
    refine ite2 (fun _ => ?_) (fun _ => ?_)
    · refine ⟨rfl, fun l0 H2 s2 lot => ?_⟩
      obtain ⟨a, vs, ht, ha, hr⟩ := lot
      refine ⟨l0, _, 1, _, rfl, rfl, ht, atI_nat (j := 1) rfl, a, _, rfl, .inr ha, fun l1 nl1 => ?_⟩
      have s3 := same_new (o := .lst vs) nl1
      refine DisT.lst (K := K) (rs := heap1) ?_ (by decide) fun l2 us H4 s4 e4 r4 => ⟨l1, l2, _, _, rfl, rfl, s4 _ _ upd_same, e4, ?_, fun l3 nl3 => ?_⟩
      · exact (by repeat (first | exact DisT.nil | (refine DisT.cons ?_ (by decide) ?_; (repeat (first | exact DisI.nil | apply DisI.neg | apply DisI.pos)))))
      · rw [hr.1, r4.1]
        decide
      · have s5 := same_new (o := .lst (vs ++ us)) nl3
        refine ⟨_, _, rfl, l3, _, 3, rfl, ((s2.trans s3).trans s4).trans s5, upd_same, ?_, ?_, ((TupsAt.of_rays hr beam9).same ((s3.trans s4).trans s5)).app ((TupsAt.of_rays r4 beam1).same s5), by decide, by decide⟩
        · rw [List.length_append, hr.1, r4.1]
          decide
        · rw [List.length_append, hr.1, r4.1]
          decide
    refine ⟨_, rfl, rfl, _, rfl, ?_⟩
    refine ite2 (fun _ => ?_) (fun _ => ?_)
    · refine ⟨rfl, fun l1 vs H2 s2 e2 lv tv => ?_⟩
      refine DisT.lst (K := K) (rs := heap3) ?_ (by decide) fun l2 us H4 s4 e4 r4 => ⟨l1, l2, _, _, rfl, rfl, s4 _ _ e2, e4, ?_, fun l3 nl3 => ?_⟩
      · exact (by repeat (first | exact DisT.nil | (refine DisT.cons ?_ (by decide) ?_; (repeat (first | exact DisI.nil | apply DisI.neg | apply DisI.pos)))))
      · rw [r4.1, sizeLine_eq]
        exact Nat.le_trans (show vs.length + 6 ≤ 40 by omega) (by decide)
      · have s5 := same_new (o := .lst (vs ++ us)) nl3
        have l6 : us.length = 6 := r4.1
        refine ⟨_, _, rfl, l3, _, 3, rfl, (s2.trans s4).trans s5, upd_same, ?_, ?_, ((tv.imp fun ns h => (⟨h.1, h.2.1.mono (by decide), h.2.2⟩ : Beam 3 ns)).same (s4.trans s5)).app ((TupsAt.of_rays r4 beam3).same s5), by decide, by decide⟩
        · rw [List.length_append]
          omega
        · rw [List.length_append]
          omega
    refine ⟨_, rfl, _, _, rfl, rfl, _, rfl, ?_⟩
    refine ite2 (fun _ => ?_) (fun _ => ?_)
    · refine ⟨rfl, fun l0 H2 s2 lot => ?_⟩
      obtain ⟨a, vs, ht, ha, hr⟩ := lot
      refine ⟨l0, _, 1, _, rfl, rfl, ht, atI_nat (j := 1) rfl, a, _, rfl, .inr ha, fun l1 nl1 => ?_⟩
      have s3 := same_new (o := .lst vs) nl1
      exact ⟨_, _, rfl, l1, vs, 4, rfl, s2.trans s3, upd_same, by rw [hr.1]; decide, by rw [hr.1]; decide, (TupsAt.of_rays hr beam18).same s3, by decide, by decide⟩
    refine ⟨_, rfl, rfl, _, rfl, ?_⟩
    refine ite2 (fun _ => ?_) (fun _ => ?_)
    · refine ⟨4, rfl, by decide, fun l1 vs H2 s2 e2 hr => ?_⟩
      refine DisT.lst (K := K) (rs := heap6) ?_ (by decide) fun l2 us H4 s4 e4 r4 => ⟨l1, l2, _, _, rfl, rfl, s4 _ _ e2, e4, ?_, fun l3 nl3 => ?_⟩
      · exact (by repeat (first | exact DisT.nil | (refine DisT.cons ?_ (by decide) ?_; (repeat (first | exact DisI.nil | apply DisI.neg | apply DisI.pos)))))
      · rw [hr.1, r4.1]
        decide
      · have s5 := same_new (o := .lst (vs ++ us)) nl3
        refine ⟨_, _, rfl, l3, _, 4, rfl, (s2.trans s4).trans s5, upd_same, ?_, ?_, ((TupsAt.of_rays hr beamA4).same (s4.trans s5)).app ((TupsAt.of_rays r4 beam6).same s5), by decide, by decide⟩
        · rw [List.length_append, hr.1, r4.1]
          decide
        · rw [List.length_append, hr.1, r4.1]
          decide
    · refine ⟨5, rfl, by decide, fun l1 vs H2 s2 e2 hr => ?_⟩
      refine DisT.lst (K := K) (rs := heap7) ?_ (by decide) fun l2 us H4 s4 e4 r4 => ⟨l1, l2, _, _, rfl, rfl, s4 _ _ e2, e4, ?_, fun l3 nl3 => ?_⟩
      · exact (by repeat (first | exact DisT.nil | (refine DisT.cons ?_ (by decide) ?_; (repeat (first | exact DisI.nil | apply DisI.neg | apply DisI.pos)))))
      · rw [hr.1, r4.1]
        decide
      · have s5 := same_new (o := .lst (vs ++ us)) nl3
        refine ⟨_, _, rfl, l3, _, 5, rfl, (s2.trans s4).trans s5, upd_same, ?_, ?_, ((TupsAt.of_rays hr beamA5).same (s4.trans s5)).app ((TupsAt.of_rays r4 beam7).same s5), by decide, by decide⟩
        · rw [List.length_append, hr.1, r4.1]
          decide
        · rw [List.length_append, hr.1, r4.1]
          decide
  rintro σ' H2 ⟨l, us, wd, rfl, s2, hl, l0, l9, tu, w2, w5⟩
  refine ⟨_, rfl, _, rfl, _, rfl, _, rfl, _, rfl, c, d, l, us, Beam wd, rfl, S1.same s2, hl, l0, l9, tu, fun p ws H3 S3 x3 hp lw tw => ?_⟩
  refine ⟨p, _, rfl, .inl ⟨.of hp, fun t nt => ⟨by show 2 ≤ sizeLine; decide, fun q nq => ?_⟩⟩⟩
  have s4 : Same H3 (upd (upd H3 t (.tup ws)) q (.tup [.int wd, .ref t])) := same_add (same_new nt) nq
  refine ⟨c, d, q, t, wd, ws, rfl, S3.same s4, .of upd_same, .of (by rw [upd_ne (ne_of_none upd_same nq)]; exact upd_same), w2, w5, lw, tw.same s4, fun l4 rs H5 S5 x5 lot lr hr => ?_⟩
  exact hq l4 wd rs H5 S5 (((x1.trans (ExD.of s2)).trans x3).trans ((ExD.of s4).trans x5)) w2 w5 lot lr hr

theorem cal_law_drawn (T : Txt mg) (D : Def K mg "_law_drawn" s_law_drawn) (c_law_pick : Cal CX0 P w K mg base "_law_pick" ["_law_spring_here", "_law_some"] 4 (spPick K)) (c_law_dip : Cal CX0 P w K mg base "_law_dip" ["_law_spring_here", "_law_limit"] 2 (spDip)) (c_law_axes : Cal CX0 P w K mg base "_law_axes" ["_law_wide"] 2 (spAxes K)) (c_law_made : Cal CX0 P w K mg base "_law_made" ["_law_entries"] 6 (spMade K)) : Cal CX0 P w K mg base "_law_drawn" ["_law_spring_here", "_law_wide"] 8 (spDrawn K) := by
  obtain ⟨f_law_pick, fd_law_pick, m_law_pick, k_law_pick, b_law_pick, G_law_pick⟩ := c_law_pick
  obtain ⟨f_law_dip, fd_law_dip, m_law_dip, k_law_dip, b_law_dip, G_law_dip⟩ := c_law_dip
  obtain ⟨f_law_axes, fd_law_axes, m_law_axes, k_law_axes, b_law_axes, G_law_axes⟩ := c_law_axes
  obtain ⟨f_law_made, fd_law_made, m_law_made, k_law_made, b_law_made, G_law_made⟩ := c_law_made
  refine Cal.make D sc_law_drawn (fun _ _ _ _ _ _ us hl => match us, hl with | [_, _], _ => rfl) (fun vs H Q E h => ?_) (fun f cdv A outer s H vs Q E hr h => ?_)
  · obtain ⟨c, d, wd, rfl, _⟩ := h
    rfl
  refine ⟨_, PSs.nox (pss_cons (ps_set (i := 2) sc_law_drawn.nd rfl (Or.inr rfl) (pe_call G_law_pick (hr.mono (by decide)) rfl m_law_pick k_law_pick b_law_pick .nil pass0 (pa_cons (pv 0) (pa_cons (pe_lst (pa_cons pe_int (pa_cons pe_int (pa_cons pe_int (pa_cons pe_int (pa_cons (pe_op op_pow pe_int pe_int) pa_nil)))))) pa_nil))))
    (pss_cons (ps_setLc (i := 3) (own := [("_law_k", 4)]) (g := (gName 4)) (by rfl) sc_law_drawn.nd rfl rfl (sw_true rfl rfl rfl (by decide +kernel)) (pi_range1 (by rfl) T.range (pa_cons (pv 1) pa_nil)) (blkOk_by (N := n_law_drawn) (sc := defScope s_law_drawn) (by decide +kernel)) (fun _ _ _ _ _ => (pg_name (i := 4) sc_law_drawn.nd rfl (Or.inl rfl))) (fun _ _ _ _ _ => pts_nil) (fun _ _ _ _ _ => (pe_op op_sub (pe_call G_law_dip (hr.mono (by decide)) rfl m_law_dip k_law_dip b_law_dip .nil pass0 (pa_cons (pv 0) (pa_cons (pe_op op_add (pe_op op_mul pe_int (pv 2)) pe_int) pa_nil))) (pv 2))))
    (pss_cons (ps_if (pt_cmpR (op_eqE hr.units) (pe_lc (own := [("_law_part_here", 5)]) (g := (gName 5)) rfl sc_law_drawn.nd (pi_list (pv 3)) (blkOk_by (N := n_law_drawn) (sc := defScope s_law_drawn) (by decide +kernel)) (fun _ _ _ _ _ => (pg_name (i := 5) sc_law_drawn.nd rfl (Or.inl rfl))) (fun _ _ _ _ _ => (pts_one (pt_cmpR op_ne (pv 5) pe_int (nomark _)))) (fun _ _ _ _ _ => (pv 5))) (pe_lst pa_nil) (nomark _)) (pss_one (ps_ret (pe_ix ix_list (pe_call G_law_axes (hr.mono (by decide)) rfl m_law_axes k_law_axes b_law_axes .nil pass0 (pa_cons (pv 1) pa_nil)) pe_int (fun _ _ => rfl)))) pss_nil)
    (pss_one (ps_ret (pe_call G_law_made (hr.mono (by decide)) rfl m_law_made k_law_made b_law_made .nil pass0 (pa_cons (pv 3) pa_nil))))))), ?_⟩
  obtain ⟨c, d, wd, rfl, hS, w3, w5, hq⟩ := h
  refine ⟨_, rfl, _, _, rfl, rfl, ⟨by decide, by decide, by decide⟩, by show 5 ≤ sizeLine; decide, fun p np => ?_⟩
  have s1 := same_new (o := .lst [.int 3, .int 3, .int 9, .int 100, .int (10 ^ (29 : Int).toNat)]) np
  refine ⟨c, d, p, [3, 3, 9, 100, 10 ^ (29 : Int).toNat], rfl, hS.same s1, upd_same, by simp, by show 5 < 1000; decide, fun most H2 hm S2 x2 => ?_⟩
  have X2 : ExD H H2 := (ExD.of s1).trans x2
  have m3 : 3 ≤ most ∧ most ≤ 10 ^ 29 := by
    have e : (10 : Int) ^ (29 : Int).toNat = 10 ^ 29 := rfl
    rw [e] at hm
    simp only [List.mem_cons, List.not_mem_nil, or_false] at hm
    rcases hm with e | e | e | e | e <;> subst e <;> decide
  refine ⟨_, rfl, wd, rfl, by omega, by omega, fun D hD => ?_⟩
  refine lc_range (lo := 0) (n := wd) (LcX H2 D c d fun i ys _ => ∃ es : List Int, ys = es.map V.int ∧ es.length = i ∧ Bnd (10 ^ 29) es) (LcX.start hD S2 fun _ => ⟨[], rfl, rfl, fun s hs => absurd hs (by simp)⟩) ?_ ?_
  · rintro i H3 hi ⟨x3, S3, ys, ey, ⟨es, rfl, le, hb⟩, ly⟩
    refine ⟨rfl, _, rfl, _, rfl, _, _, rfl, rfl, .inl ⟨by decide, by decide⟩, _, _, rfl, rfl, c, d, _, rfl, S3, by omega, by omega, fun m H4 m0 m1 S4 x4 => ⟨_, rfl, _, _, rfl, rfl, ?_⟩⟩
    refine LcX.yes (x3.trans x4) S2 S4 hD (x4.lst ey) ly (by omega) ⟨es ++ [m - most], by rw [List.map_append] <;> rfl, by rw [List.length_append, le] <;> rfl, fun z hz => ?_⟩
    rcases List.mem_append.mp hz with y | y
    · exact hb z y
    · rw [List.mem_singleton.mp y]
      have : (m - most).natAbs ≤ most.natAbs := by omega
      omega
  rintro H3 ⟨x3, S3, ys, ey, ⟨es, rfl, le, hb⟩, ly⟩
  refine ⟨_, rfl, D, rfl, ⟨_, .of ey⟩, fun D2 hD2 => ?_⟩
  refine lc_list (K := K) (a := D) (xs := es.map V.int) (LcP H3 D2 fun i => ((es.take i).filter fun n => n != 0).map V.int) (LcP.start hD2 rfl) (fun i H4 _ p => .of (p.1 _ _ ey)) ?_ ?_
  · intro i x H4 hi p
    obtain ⟨y, hy, rfl⟩ := get_int hi
    refine ⟨rfl, _, rfl, rfl, _, rfl, ?_⟩
    by_cases h0 : y = 0
    · refine ifF (neI0 h0) ?_
      refine p.no (Same.refl _) ?_
      show ((es.take (i + 1)).filter fun n => n != 0).map V.int = _
      rw [take_next hy, List.filter_append, h0]
      simp
    · refine ifT (neI h0) ⟨_, rfl, ?_⟩
      refine p.yes hD2 (Same.refl _) ?_ ?_
      · show ((es.take (i + 1)).filter fun n => n != 0).map V.int = _
        rw [take_next hy, List.filter_append]
        simp [h0]
      · rw [List.length_map]
        have := List.length_filter_le (fun n : Int => n != 0) (es.take i)
        have := List.length_take_le i es
        rw [List.length_take] at *
        omega
  intro H4 p4
  have e4 : H4 D2 = some (.lst ((es.filter fun n => n != 0).map V.int)) := p4.at_ (by
    show ((es.take (es.map V.int).length).filter fun n => n != 0).map V.int = _
    rw [List.length_map, List.take_length])
  refine ⟨Nat.zero_le _, fun o no => ?_⟩
  have s5 := same_new (o := .lst []) no
  have S5 : SprAt (upd H4 o (.lst [])) c d := (S3.same p4.1).same s5
  have X5 : ExD H (upd H4 o (.lst [])) := ((X2.trans x3).trans (ExD.of p4.1)).trans (ExD.of s5)
  refine ⟨D2, o, _, rfl, rfl, .of (s5 _ _ e4), lst_at, elem_ints, _, rfl, ?_⟩
  have ey5 := s5 _ _ (p4.1 _ _ ey)
  generalize upd H4 o (.lst []) = H5 at S5 X5 ey5
  cases ef : es.filter fun n => n != 0 with
  | nil =>
    refine iteT ?_
    refine ⟨_, rfl, wd, rfl, w5, fun l us H6 s6 e6 r6 => ?_⟩
    have ax := axis_ok w3 w5
    have g0 : (axesL wd)[0]? = some (axisL wd (wd - 1)) := by
      rw [axesL, List.getElem?_map, List.getElem?_range (by omega)]
      rfl
    have l6 : 0 < us.length := by
      rw [r6.1, axesL, List.length_map, List.length_range]
      omega
    obtain ⟨r, a, h1, h2, h3⟩ := r6.2 0 us[0] (List.getElem?_eq_getElem l6)
    rw [g0] at h1
    have h1 := Option.some.inj h1
    subst h1
    refine ⟨l, _, 0, _, rfl, rfl, .of e6, atI_nat (j := 0) (List.getElem?_eq_getElem l6), ?_⟩
    rw [h2]
    exact hq a _ H6 (S5.same s6) (X5.trans (ExD.of s6)) h3 ax.2.1 ax.1 (ax.2.2.mono (by decide))
  | cons z r =>
    have nz : Nz es := by
      have hz : z ∈ es.filter fun n => n != 0 := by rw [ef]; exact List.mem_cons_self
      obtain ⟨hz, z0⟩ := List.mem_filter.mp hz
      exact ⟨z, hz, by simpa using z0⟩
    refine iteF ?_
    refine ⟨_, rfl, D, es, rfl, .of ey5, Fits.of_bnd hb (by decide), nz, by omega, fun p6 H6 s6 e6 => ?_⟩
    exact hq p6 _ H6 (S5.same s6) (X5.trans (ExD.of s6)) (.of e6) (by rw [madeL, List.length_map, le]) (made_ok nz) (made_bnd nz hb)

end
end RM
namespace RM
open PySem PySem.Spec PyProof.Rows L2
def spSame (K : PySem.W.Frag) : Sp := fun vs H Q _ => ∃ (a b : Addr) (d : PyData), vs = [.ref a, .ref b] ∧ Dp K H (.ref a) d ∧ Dp K H (.ref b) d ∧ DOk d ∧ Q (.bl true) H
section
variable {P : Program} {w : World} {K : PySem.W.Frag} {mg : Str → Option Value} {base : Heap}
theorem cal_law_same (T : Txt mg) (D : Def K mg "_law_same" s_law_same)  : CalG CX0 P w K mg base "_law_same" ["_law_told", "_law_due"] 2 (spSame K) := by
  refine CalG.make D sc_law_same (fun _ _ _ _ _ _ us hl => match us, hl with | [_, _], _ => rfl) (fun vs H Q E h => ?_) (fun f cdv A outer s H vs Q E hg hr h => ?_)
  · obtain ⟨a, b, d, rfl, _⟩ := h
    rfl
  refine ⟨_, PSs.nox (pss_one (ps_ret (pe_cmpR op_eq (pe_callB (cr_repr hg hr.units) (by rfl) T.repr (by decide +kernel) (pa_cons (pv 0) pa_nil)) (pe_callB (cr_repr hg hr.units) (by rfl) T.repr (by decide +kernel) (pa_cons (pv 1) pa_nil)) (nomark _)))), ?_⟩
  obtain ⟨a, b, d, rfl, da, db, ok, hq⟩ := h
  refine ⟨_, rfl, a, d, rfl, da, ok, _, rfl, b, d, rfl, db, ok, rfl, ?_⟩
  rw [decide_eq_true rfl]
  exact hq

end
end RM
namespace RM
open PySem PySem.Spec PyProof.Rows L2
def spRayRight (K : PySem.W.Frag) : Sp := fun vs H Q _ => ∃ (c d r : Addr) (ns : List Int), vs = [.ref d, .int ns.length, .ref r] ∧ SprAt H c d ∧ SqT K H r (ns.map V.int) ∧ 3 ≤ ns.length ∧ ns.length ≤ 5 ∧ RayOk ns ∧ Bnd (10 ^ 29) ns ∧
  ∀ H', SprAt H' c d → ExD H H' → Q (.bl true) H'
/-- a base: primes below a million, ascending -/
def Base (ns : List Int) : Prop := ∃ b, ns = zs b ∧ PrimesOk b
theorem pr2 : Pr 2 := pr_of (p := 2) (by decide) (by decide) (fun m a b => by omega)
theorem pr_small {r p : Nat} (h2 : 2 ≤ r) (hs : r < p * p) (h : ∀ m, m < p → 2 ≤ m → ¬ m ∣ r) : Pr r := pr_of h2 hs fun m a b => h m b a
theorem pr3 : Pr 3 := pr_small (p := 2) (by decide) (by decide) (by decide)
theorem pr5 : Pr 5 := pr_small (p := 3) (by decide) (by decide) (by decide)
theorem pr7 : Pr 7 := pr_small (p := 3) (by decide) (by decide) (by decide)
theorem pr11 : Pr 11 := pr_small (p := 4) (by decide) (by decide) (by decide)
theorem pr13 : Pr 13 := pr_small (p := 4) (by decide) (by decide) (by decide)
theorem pr17 : Pr 17 := pr_small (p := 5) (by decide) (by decide) (by decide)
theorem pr19 : Pr 19 := pr_small (p := 5) (by decide) (by decide) (by decide)
theorem pr997 : Pr 997 := pr_small (p := 32) (by decide) (by decide) (by decide)
def firstB : List Nat := [2, 3, 5, 7, 11, 13, 17, 19, 997]
theorem first_pr : ∀ p ∈ firstB, Pr p ∧ p < 1000000 := by
  intro p hp
  simp only [firstB, List.mem_cons, List.not_mem_nil, or_false] at hp
  rcases hp with e | e | e | e | e | e | e | e | e <;> subst e
  · exact ⟨pr2, by decide⟩
  · exact ⟨pr3, by decide⟩
  · exact ⟨pr5, by decide⟩
  · exact ⟨pr7, by decide⟩
  · exact ⟨pr11, by decide⟩
  · exact ⟨pr13, by decide⟩
  · exact ⟨pr17, by decide⟩
  · exact ⟨pr19, by decide⟩
  · exact ⟨pr997, by decide⟩
theorem base_of {b : List Nat} (h : ∀ p ∈ b, p ∈ firstB) (ha : b.Pairwise (· < ·)) (hl : b.length ≤ 10) : Base (zs b) := ⟨b, rfl, fun p hp => first_pr p (h p hp), ha, by omega⟩
def trysL : List (List Int) := [[], [2], [2, 3], [2, 3, 5], [3, 5, 7], [2, 3, 5, 7, 11, 13, 17, 19]]
theorem trys_ok : ∀ r ∈ trysL, Base r := by
  intro r hr
  simp only [trysL, List.mem_cons, List.not_mem_nil, or_false] at hr
  rcases hr with e | e | e | e | e | e <;> subst e
  · exact base_of (b := []) (by decide) (by decide) (by decide)
  · exact base_of (b := [2]) (by decide) (by decide) (by decide)
  · exact base_of (b := [2, 3]) (by decide) (by decide) (by decide)
  · exact base_of (b := [2, 3, 5]) (by decide) (by decide) (by decide)
  · exact base_of (b := [3, 5, 7]) (by decide) (by decide) (by decide)
  · exact base_of (b := [2, 3, 5, 7, 11, 13, 17, 19]) (by decide) (by decide) (by decide)
theorem PrimesOk.cut {b : List Nat} (h : PrimesOk b) (i j : Nat) : PrimesOk ((b.drop i).take j) :=
  ⟨fun p hp => h.pr p (List.mem_of_mem_drop (List.mem_of_mem_take hp)), h.asc.sublist ((List.take_sublist _ _).trans (List.drop_sublist _ _)), by
    have := h.len
    rw [List.length_take, List.length_drop]
    omega⟩
theorem cut_zs (b : List Nat) (lo hi : Option Int) : ∃ i j, cutV ((zs b).map V.int) lo hi = (zs ((b.drop i).take j)).map V.int := by
  refine ⟨HT.sIx ((zs b).map V.int).length 0 lo, HT.sIx ((zs b).map V.int).length ((zs b).map V.int).length hi - HT.sIx ((zs b).map V.int).length 0 lo, ?_⟩
  unfold cutV zs
  rw [List.map_take, List.map_drop, List.map_take, List.map_drop]
theorem primes_of_pd {n : Nat} {l : List Nat} (h : PD n l) (h1 : 1 ≤ n) (h9 : n < 1000000) (hl : l.length ≤ 2000) : PrimesOk l :=
  ⟨fun p hp => ⟨((h.mem p).mp hp).1, Nat.lt_of_le_of_lt (Nat.le_of_dvd h1 ((h.mem p).mp hp).2) h9⟩, h.asc, by omega⟩
theorem few7 : factFrom (7 + 1) 2 = 362880 := by decide
theorem dok_bools (ks : List Bool) (h : ks.length ≤ 100) : DOk (.list (ks.map PyData.bool)) := by
  have key : ∀ ks : List Bool, PyData.showableAll (ks.map PyData.bool) = true ∧ PyData.hasDictAll (ks.map PyData.bool) = false ∧ PyData.depthAll (ks.map PyData.bool) = 0 ∧ PyData.leavesShortAll 300 (ks.map PyData.bool) = true ∧ PyData.weightAll (ks.map PyData.bool) ≤ 2 * ks.length := by
    intro ks
    induction ks with
    | nil => simp [PyData.showableAll, PyData.hasDictAll, PyData.depthAll, PyData.leavesShortAll, PyData.weightAll]
    | cons k ks ih =>
      obtain ⟨a, b, c, d, e⟩ := ih
      simp only [List.map_cons, PyData.showableAll, PyData.hasDictAll, PyData.depthAll, PyData.leavesShortAll, PyData.weightAll, PyData.showable, PyData.hasDict, PyData.depth, PyData.leavesShort, PyData.weight, a, b, c, d, List.length_cons]
      refine ⟨rfl, rfl, rfl, rfl, ?_⟩
      omega
  obtain ⟨a, b, c, d, e⟩ := key ks
  refine ⟨by simpa [PyData.showable] using a, by simpa [PyData.hasDict] using b, ?_, by simpa [PyData.leavesShort] using d, ?_⟩
  · simp only [PyData.depth, c]
    decide
  · simp only [PyData.weight]
    omega
section
variable {P : Program} {w : World} {K : PySem.W.Frag} {mg : Str → Option Value} {base : Heap}
theorem cal_law_is_ray_right (T : Txt mg) (D : Def K mg "_law_is_ray_right" s_law_is_ray_right) (c_law_dot : Cal CX0 P w K mg base "_law_dot" ["_law_first", "_law_second"] 2 (spDot K)) (c_law_primes : Cal CX0 P w K mg base "_law_primes" ["_law_number"] 2 (spPrimesBy K)) (c_law_pick : Cal CX0 P w K mg base "_law_pick" ["_law_spring_here", "_law_some"] 4 (spPick K)) (c_law_is_in : Cal CX0 P w K mg base "_law_is_in" ["_law_base", "_law_beam"] 4 (spLIsIn K)) (c_is_in_class : CalW CX0 P w K mg base "is_in_class" ["size", "primes", "ray"] ["ray", "size", "primes"] perm3 10 (spInClass K)) (c_law_same : CalG CX0 P w K mg base "_law_same" ["_law_told", "_law_due"] 2 (spSame K)) : CalG CX0 P w K mg base "_law_is_ray_right" ["_law_spring_here", "_law_wide", "_law_beam"] 16 (spRayRight K) := by
  obtain ⟨f_law_dot, fd_law_dot, m_law_dot, k_law_dot, b_law_dot, G_law_dot⟩ := c_law_dot
  obtain ⟨f_law_primes, fd_law_primes, m_law_primes, k_law_primes, b_law_primes, G_law_primes⟩ := c_law_primes
  obtain ⟨f_law_pick, fd_law_pick, m_law_pick, k_law_pick, b_law_pick, G_law_pick⟩ := c_law_pick
  obtain ⟨f_law_is_in, fd_law_is_in, m_law_is_in, k_law_is_in, b_law_is_in, G_law_is_in⟩ := c_law_is_in
  obtain ⟨f_law_same, fd_law_same, m_law_same, k_law_same, b_law_same, G_law_same⟩ := c_law_same
  obtain ⟨f_is_in_class, fd_is_in_class, m_is_in_class, k_is_in_class, b_is_in_class, ⟨g_is_in_class, kw_is_in_class⟩, G_is_in_class⟩ := c_is_in_class
  refine CalG.make D sc_law_is_ray_right (fun _ _ _ _ _ _ us hl => match us, hl with | [_, _, _], _ => rfl) (fun vs H Q E h => ?_) (fun f cdv A outer s H vs Q E hg hr h => ?_)
  · obtain ⟨c, d, r, ns, rfl, _⟩ := h
    rfl
  refine ⟨_, PSs.nox (pss_cons (ps_par (i := 4) (j := 5) (by rfl) sc_law_is_ray_right.nd rfl rfl (by decide) rfl rfl (pa_cons (pe_call G_law_dot (hr.mono (by decide)) rfl m_law_dot k_law_dot b_law_dot .nil pass0 (pa_cons (pv 2) (pa_cons (pv 2) pa_nil))) (pa_cons (pe_lst (pa_cons (pe_tup pa_nil) (pa_cons (pe_tup (pa_cons pe_int pa_nil)) (pa_cons (pe_tup (pa_cons pe_int (pa_cons pe_int pa_nil))) (pa_cons (pe_tup (pa_cons pe_int (pa_cons pe_int (pa_cons pe_int pa_nil)))) (pa_cons (pe_tup (pa_cons pe_int (pa_cons pe_int (pa_cons pe_int pa_nil)))) (pa_cons (pe_tup (pa_cons pe_int (pa_cons pe_int (pa_cons pe_int (pa_cons pe_int (pa_cons pe_int (pa_cons pe_int (pa_cons pe_int (pa_cons pe_int pa_nil))))))))) pa_nil))))))) pa_nil)) (by rfl))
    (Evl.pss_cut (ps_if (pt_cmpR op_lt (pv 4) (pe_op op_pow pe_int pe_int) (nomark _)) (pss_cons (ps_set (i := 5) sc_law_is_ray_right.nd rfl (Or.inl rfl) (pe_op op_cat (pv 5) (pe_lst (pa_cons (pe_call G_law_primes (hr.mono (by decide)) rfl m_law_primes k_law_primes b_law_primes .nil pass0 (pa_cons (pv 4) pa_nil)) (pa_cons (pe_slice sl_tupB (pe_call G_law_primes (hr.mono (by decide)) rfl m_law_primes k_law_primes b_law_primes .nil pass0 (pa_cons (pv 4) pa_nil)) (po_some pe_int) po_none) (pa_cons (pe_slice sl_tupB (pe_call G_law_primes (hr.mono (by decide)) rfl m_law_primes k_law_primes b_law_primes .nil pass0 (pa_cons (pv 4) pa_nil)) po_none (po_some (pe_un un_neg pe_int))) pa_nil))))))
    (pss_cons (ps_set (i := 6) sc_law_is_ray_right.nd rfl (Or.inl rfl) (pe_call G_law_pick (hr.mono (by decide)) rfl m_law_pick k_law_pick b_law_pick .nil pass0 (pa_cons (pv 0) (pa_cons (pe_lst (pa_cons pe_int (pa_cons pe_int (pa_cons pe_int (pa_cons pe_int (pa_cons pe_int (pa_cons pe_int pa_nil))))))) pa_nil))))
    (pss_one (ps_expr (pe_bm PySem.F.plainAttrs_list PySem.F.slot_list_append PySem.F.type_list_append mt_append (pv 5) (pa_cons (pe_callTy call_tuple_of (by rfl) T.tuple (by decide +kernel) (pa_cons (pe_callB (cr_sortedSet rfl) (by rfl) T.sorted (by decide +kernel) (pa_cons (pe_callTy (cr_setInts rfl) (by rfl) T.set (by decide +kernel) (pa_cons (pe_op op_cat (pe_callTy call_list_of (by rfl) T.list (by decide +kernel) (pa_cons (pe_call G_law_primes (hr.mono (by decide)) rfl m_law_primes k_law_primes b_law_primes .nil pass0 (pa_cons (pv 4) pa_nil)) pa_nil)) (pe_lst (pa_cons (pv 6) pa_nil))) pa_nil)) pa_nil)) pa_nil)) pa_nil)))))) pss_nil)
    (pss_cons (ps_for PassesOwn.never rfl (pi_list (pv 5)) (pg_name (i := 3) sc_law_is_ray_right.nd rfl (Or.inl rfl))
      (pss_cons (ps_set (i := 7) sc_law_is_ray_right.nd rfl (Or.inl rfl) (pe_call G_law_is_in (hr.mono (by decide)) rfl m_law_is_in k_law_is_in b_law_is_in .nil pass0 (pa_cons (pv 3) (pa_cons (pv 2) pa_nil))))
    (pss_one (ps_if (pt_not (pt_val (pe_callG hg G_law_same (hr.mono (by decide)) rfl m_law_same k_law_same b_law_same pass0 (pa_cons (pe_lst (pa_cons (pe_call G_is_in_class (hr.mono (by decide)) rfl m_is_in_class k_is_in_class b_is_in_class .nil pass0 (pa_cons (pv 1) (pa_cons (pv 3) (pa_cons (pv 2) pa_nil)))) (pa_cons (pe_kw G_is_in_class (hr.mono (by decide)) rfl m_is_in_class k_is_in_class kw_is_in_class pass0 (pk_cons (pv 2) (pk_cons (pv 1) (pk_cons (pv 3) pk_nil)))) pa_nil))) (pa_cons (pe_lst (pa_cons (pv 7) (pa_cons (pv 7) pa_nil))) pa_nil))))) (pss_one (ps_ret pe_bl)) pss_nil))))
    (pss_one (ps_ret (pe_or (pe_cmpR op_ge (pv 4) (pe_op op_pow pe_int pe_int) (nomark _)) (pe_one (pe_call G_is_in_class (hr.mono (by decide)) rfl m_is_in_class k_is_in_class b_is_in_class .nil pass0 (pa_cons (pv 1) (pa_cons (pe_call G_law_primes (hr.mono (by decide)) rfl m_law_primes k_law_primes b_law_primes .nil pass0 (pa_cons (pv 4) pa_nil)) (pa_cons (pv 2) pa_nil))))))))))), ?_⟩
  obtain ⟨c, d, r, ns, rfl, hS, hR, h3, h5, ray, bnd, hq⟩ := h
  have fit : Fits ns := Fits.of_bnd bnd (by decide)
  have n1 := lenN_pos ray
  refine ⟨_, rfl, _, rfl, r, r, ns, ns, rfl, hR, hR, rfl, by omega, fit, fit, fun H1 s1 => ?_⟩
  rw [dot_lenN]
  have nle : lenN ns < 2 ^ 500 := by
    have e := lenN_le bnd
    have : ns.length * (10 ^ 29 * 10 ^ 29) ≤ 5 * (10 ^ 29 * 10 ^ 29) := Nat.mul_le_mul_right _ h5
    exact Nat.lt_of_le_of_lt (Nat.le_trans e this) (by decide)
  have en : dotL ns ns = (lenN ns : Nat) := dot_lenN ns
  obtain ⟨n, eN⟩ : ∃ n, lenN ns = n := ⟨_, rfl⟩
  rw [eN] at n1 nle en ⊢
  refine DisT.lst (K := K) (rs := trysL) ?_ (by decide) fun l us H2 s2 e2 r2 => ?_
  · exact (by repeat (first | exact DisT.nil | (refine DisT.cons ?_ (by decide) ?_; (repeat (first | exact DisI.nil | apply DisI.neg | apply DisI.pos)))))
  have S2 : SprAt H2 c d := hS.same (s1.trans s2)
  have X2 : ExD H H2 := ExD.of (s1.trans s2)
  have t2 : TupsAt K H2 us Base := .of_rays r2 trys_ok
  have l2 : us.length = 6 := r2.1
  refine ⟨_, _, rfl, ?_⟩
  refine ⟨fun σ' H' => ∃ (t : Addr) (us : List V) (y6 : Option V), σ' = [some (.ref d), some (.int ns.length), some (.ref r), none, some (.int n), some (.ref t), y6, none] ∧ ExD H H' ∧ SprAt H' c d ∧ H' t = some (.lst us) ∧ TupsAt K H' us Base ∧ us.length ≤ 20, ?_, ?_⟩
  · refine ⟨_, rfl, _, _, rfl, rfl, ⟨by decide, by decide, by decide⟩, _, _, rfl, rfl, _, rfl, ?_⟩
    generalize hb : decide ((n : Int) < 10 ^ (5 : Int).toNat) = bb
    cases bb with
    | false => exact iteF ⟨l, us, none, rfl, X2, S2, e2, t2, by rw [l2]; decide⟩
    | true =>
    refine iteT ?_
    have hf : (n : Int) < 10 ^ 5 := of_decide_eq_true hb
    have hf : n < 100000 := by omega
    have n6 : n < 1000000 := by omega
    -- tries + [all, all but the first, all but the last]
    refine ⟨_, rfl, _, rfl, n, rfl, n1, n6, fun b1 p1 H3 pd1 len1 s3 e3 => ?_⟩
    refine ⟨_, rfl, n, rfl, n1, n6, fun b2 p2 H4 pd2 len2 s4 e4 => ⟨1, rfl, p2, _, rfl, .of e4, fun q2 H5 s5 e5 => ?_⟩⟩
    refine ⟨_, rfl, n, rfl, n1, n6, fun b3 p3 H6 pd3 len3 s6 e6 => ⟨_, rfl, -1, rfl, p3, _, rfl, .of e6, fun q3 H7 s7 e7 => ?_⟩⟩
    refine ⟨by show 3 ≤ sizeLine; decide, fun m nm => ?_⟩
    have ok1 := primes_of_pd pd1 n1 n6 len1
    have ok2 := primes_of_pd pd2 n1 n6 len2
    have ok3 := primes_of_pd pd3 n1 n6 len3
    have sm := same_new (o := .lst [V.ref p1, V.ref q2, V.ref q3]) nm
    generalize eH8 : upd H7 m (.lst [V.ref p1, V.ref q2, V.ref q3]) = H8 at sm
    have em : H8 m = some (.lst [V.ref p1, V.ref q2, V.ref q3]) := by rw [← eH8]; exact upd_same
    have s28 : Same H2 H8 := (((((s3.trans s4).trans s5).trans s6).trans s7).trans sm)
    have t8 : TupsAt K H8 [V.ref p1, V.ref q2, V.ref q3] Base := by
      intro v hv
      simp only [List.mem_cons, List.not_mem_nil, or_false] at hv
      rcases hv with e | e | e
      · exact ⟨p1, _, e, same_t (((((s4.trans s5).trans s6).trans s7).trans sm)) (.of e3), b1, rfl, ok1⟩
      · obtain ⟨i, j, ec⟩ := cut_zs b2 (some 1) none
        rw [ec] at e5
        exact ⟨q2, _, e, same_t ((s6.trans s7).trans sm) e5, _, rfl, ok2.cut i j⟩
      · obtain ⟨i, j, ec⟩ := cut_zs b3 none (some (-1))
        rw [ec] at e7
        exact ⟨q3, _, e, same_t sm e7, _, rfl, ok3.cut i j⟩
    refine ⟨l, m, us, _, rfl, rfl, s28 _ _ e2, em, by rw [l2]; show 9 ≤ sizeLine; decide, fun t nt => ?_⟩
    have st := same_new (o := .lst (us ++ [V.ref p1, V.ref q2, V.ref q3])) nt
    generalize eH9 : upd H8 t (.lst (us ++ [V.ref p1, V.ref q2, V.ref q3])) = H9 at st
    have et : H9 t = some (.lst (us ++ [V.ref p1, V.ref q2, V.ref q3])) := by rw [← eH9]; exact upd_same
    have t9 : TupsAt K H9 (us ++ [V.ref p1, V.ref q2, V.ref q3]) Base := ((t2.same s28).app t8).same st
    have l9 : (us ++ [V.ref p1, V.ref q2, V.ref q3]).length = 9 := by rw [List.length_append, l2] <;> rfl
    have S9 := S2.same (s28.trans st)
    have X9 := X2.trans (ExD.of (s28.trans st))
    generalize us ++ [V.ref p1, V.ref q2, V.ref q3] = vs at et t9 l9
    -- one prime more
    refine ⟨_, rfl, by show 6 ≤ sizeLine; decide, fun o no => ?_⟩
    have so := same_new (o := .lst [.int 2, .int 3, .int 5, .int 7, .int 11, .int 997]) no
    refine ⟨c, d, o, [2, 3, 5, 7, 11, 997], rfl, S9.same so, upd_same, by simp, by show 6 < 1000; decide, fun more H10 hmore S10 x10 => ?_⟩
    have X10 := (X9.trans (ExD.of so)).trans x10
    have et10 := x10.lst (so _ _ et)
    have t10 := (t9.same so).exd x10
    refine ⟨_, rfl, .inl ⟨rfl, _, .of et10⟩, _, rfl, n, rfl, n1, n6, fun b4 p4 H11 pd4 len4 s11 e11 => ⟨p4, _, rfl, .inr (.of e11), fun l4 nl4 => ?_⟩⟩
    have f4 : b4.length ≤ 7 := pd_few pd4 n1 (by rw [few7]; omega)
    have s12 := same_new (o := .lst ((zs b4).map V.int)) nl4
    refine ⟨_, rfl, by show 1 ≤ sizeLine; decide, fun l5 nl5 => ?_⟩
    have s13 := same_new (o := .lst [V.int more]) nl5
    refine ⟨l4, l5, _, _, rfl, rfl, s13 _ _ upd_same, upd_same, ?_, fun l6 nl6 => ?_⟩
    · rw [List.length_map, zs_len, sizeLine_eq]
      exact Nat.le_trans (show b4.length + 1 ≤ 8 by omega) (by decide)
    have s14 := same_new (o := .lst ((zs b4).map V.int ++ [V.int more])) nl6
    refine ⟨l6, zs b4 ++ [more], rfl, .of (by rw [upd_same, List.map_append] <;> rfl), by rw [List.length_append, zs_len]; show b4.length + 1 < 1000; omega, fun S k nS hk => ?_⟩
    rw [List.length_append, zs_len] at hk
    have hk : k ≤ b4.length + 1 := hk
    refine ⟨S, _, k, rfl, upd_same, by omega, fun R pR ascR memR lenR nR => ⟨pR, _, rfl, .inl ⟨.of upd_same, fun tp ntp => ?_⟩⟩⟩
    have mem2 : ∀ z, z ∈ R ↔ z ∈ zs b4 ∨ z = more := fun z => by
      rw [memR, decide_eq_true_iff, List.mem_append, List.mem_singleton]
    have m0 : ∃ q ∈ firstB, more = ((q : Nat) : Int) := by
      simp only [List.mem_cons, List.not_mem_nil, or_false] at hmore
      rcases hmore with e | e | e | e | e | e
      · exact ⟨2, by decide, e⟩
      · exact ⟨3, by decide, e⟩
      · exact ⟨5, by decide, e⟩
      · exact ⟨7, by decide, e⟩
      · exact ⟨11, by decide, e⟩
      · exact ⟨997, by decide, e⟩
    obtain ⟨qm, hqm, em2⟩ := m0
    have eR : R = zs (R.map Int.toNat) := zs_of fun z hz => by
      rcases (mem2 z).mp hz with y | y
      · unfold zs at y
        obtain ⟨x, _, e⟩ := List.mem_map.mp y
        omega
      · omega
    have okR : Base R := by
      refine ⟨R.map Int.toNat, eR, fun p hp => ?_, zs_asc (by rw [← eR]; exact ascR), by rw [List.length_map]; omega⟩
      rw [← zs_mem, ← eR, mem2] at hp
      rcases hp with y | y
      · exact (primes_of_pd pd4 n1 n6 len4).pr p (zs_mem.mp y)
      · have : p = qm := by omega
        rw [this]
        exact first_pr qm hqm
    have sE : Same H10 (upd _ tp (.tup (R.map V.int))) := same_add (same_add (same_add (((s11.trans s12).trans s13).trans s14) nS) nR) ntp
    generalize eH15 : upd _ tp (.tup (R.map V.int)) = H15 at sE
    have e15 : H15 tp = some (.tup (R.map V.int)) := by rw [← eH15]; exact upd_same
    have et15 := sE _ _ et10
    refine ⟨t, _, _, rfl, rfl, et15, small1000 (by omega), ?_⟩
    have n0 : H t = none := ((s1.trans s2).trans s28).free nt
    exact ⟨t, vs ++ [.ref tp], some (.int more), rfl, (X10.trans (ExD.of sE)).write n0, (S10.same sE).put (hS.ne n0), upd_same, ((t10.same sE).snoc (.of e15) okR).put et15, by rw [List.length_append, l9]; show 10 ≤ 20; decide⟩
  rintro σ' H16 ⟨t, us, y6, rfl, X16, S16, et, tu, lu⟩
  subst eN
  have hR16 := X16.t hR
  refine ⟨_, rfl, t, rfl, ⟨_, .of et⟩, for_list (K := K) (a := t) (xs := us) (fun i σ' H' => ∃ (y3 y7 : Option V), σ' = [some (.ref d), some (.int ns.length), some (.ref r), y3, some (.int (lenN ns)), some (.ref t), y6, y7] ∧ Same H16 H') ⟨none, none, rfl, Same.refl _⟩ (fun i σ' H' _ p => ?_) ?_ ?_⟩
  · obtain ⟨_, _, _, s⟩ := p
    exact .of (s _ _ et)
  · rintro i v σ' H' hi ⟨y3, y7, rfl, s⟩
    obtain ⟨b, ms, rfl, hb, bb, rfl, ok⟩ := tu v (List.mem_of_getElem? hi)
    have hb := same_t s hb
    have hr' := same_t s hR16
    refine ⟨_, rfl, _, rfl, b, r, bb, ns, lenN ns, rfl, hb, fun p hp => ⟨(ok.pr p hp).1.two, (ok.pr p hp).2⟩, hr', by omega, fit, en, n1, nle, fun H17 s17 => ?_⟩
    refine ⟨_, rfl, _, rfl, _, rfl, b, r, bb, ns, rfl, h3, h5, same_t s17 hb, ok, same_t s17 hr', ray, fit, n1, fun H18 s18 => ?_⟩
    refine ⟨_, rfl, _, rfl, _, rfl, rfl, b, r, bb, ns, rfl, h3, h5, same_t (s17.trans s18) hb, ok, same_t (s17.trans s18) hr', ray, fit, n1, fun H19 s19 => ?_⟩
    refine ⟨by show 2 ≤ sizeLine; decide, fun l1 nl1 => ?_⟩
    refine ⟨_, rfl, _, rfl, by show 2 ≤ sizeLine; decide, fun l2 nl2 => ?_⟩
    have dp : ∀ Hx, DpAll K Hx [V.bl (within bb (lenN ns)), V.bl (within bb (lenN ns))] ([within bb (lenN ns), within bb (lenN ns)].map PyData.bool) := fun Hx => .cons (.bl _) (.cons (.bl _) .nil)
    refine ⟨l1, l2, .list ([within bb (lenN ns), within bb (lenN ns)].map PyData.bool), rfl, .lst (.of ?_) (dp _), .lst (.of upd_same) (dp _), dok_bools _ (by show 2 ≤ 100; decide), true, rfl, iteF ?_⟩
    · rw [upd_ne (ne_of_none upd_same nl2)]
      exact upd_same
    · exact ⟨_, _, rfl, s.trans (((s17.trans s18).trans s19).trans (same_add (same_new nl1) nl2))⟩
  · rintro σ' H' ⟨y3, y7, rfl, s⟩
    refine ⟨_, rfl, _, _, rfl, rfl, ⟨by decide, by decide, by decide⟩, _, _, rfl, rfl, _, rfl, ?_⟩
    generalize hb : decide ((10 : Int) ^ (5 : Int).toNat ≤ (lenN ns : Nat)) = bb
    cases bb with
    | true => exact iteT (hq H' (S16.same s) (X16.trans (ExD.of s)))
    | false =>
    have hf : ¬ (10 : Int) ^ 5 ≤ (lenN ns : Nat) := of_decide_eq_false hb
    have n6 : lenN ns < 1000000 := by omega
    refine iteF ?_
    refine ⟨_, rfl, _, rfl, lenN ns, rfl, n1, n6, fun b p H17 pd lb s17 hp => ⟨_, rfl, p, r, b, ns, rfl, h3, h5, .of hp, primes_of_pd pd n1 n6 lb, same_t (s.trans s17) hR16, ray, fit, n1, fun H18 s18 => ?_⟩⟩
    rw [within_true (fun q hq => ((pd.mem q).mp hq).1) n1 (fun q hq hd => (pd.mem q).mpr ⟨hq, hd⟩)]
    have sf := (s.trans s17).trans s18
    exact hq H18 (S16.same sf) (X16.trans (ExD.of sf))

end
end RM
namespace RM
open PySem PySem.Spec PyProof.Rows L2
/-- want(False, word): a NotUsable that tells word and the place -/
def spWantR (C : Addr) : Sp := fun vs H _ E => ∃ x y : V, vs = [.bl false, x, y] ∧ ∀ d, H d = none → E (.ref C) (some d) (upd H d (.xd (nuF x y)))
/-- class_of(lot), of size 2 -/
def spClassOfR (K : PySem.W.Frag) (C : Addr) : Sp := fun vs H _ E => ∃ (l : Addr) (a : V), vs = [.ref l] ∧ SqT K H l [.int 2, a] ∧ ∀ d, H d = none → E (.ref C) (some d) (upd H d (.xd (nuF (.str "lot") (.int (-1)))))
/-- what is known of the program's names -/
structure NuMod (P : Program) (K : PySem.W.Frag) (mg : Str → Option Value) (C fI : Addr) : Prop where
  txt : NuTxt K P.main.file C fI
  g : mg "NotUsable" = some (.ref C)
  sup : mg "super" = none
  top : (P.main.scope.names.lookup ("super" : Str)).isSome = false
section
variable {P : Program} {w : World} {K : PySem.W.Frag} {mg : Str → Option Value} {base : Heap} {C fI : Addr}
theorem cal_wantR (U : NuMod P K mg C fI) (D : DefD K mg "want" s_want [.int (-1)]) : CalD (L2.CX P w) P w K mg base "want" ["is_right", "name", "place"] [.int (-1)] 3 (spWantR C) := by
  obtain ⟨f, fd, hm, F⟩ := D
  obtain ⟨ds, r, b⟩ := F.binds1 (ps := ["is_right", "name", "place"]) 2 0 (by decide) rfl (fun T kV doc pm an cdv ct us its hl hi => match us, its, hl, hi with | [_, _], [_], _, _ => ⟨_, rfl, rfl⟩)
  refine ⟨f, fd, ds, hm, F.kp, b, r, F.ok sc_want (fun vs H Q E h => ?_) (fun cdv A outer s H vs Q E hr h => ?_)⟩
  · obtain ⟨x, y, rfl, _⟩ := h
    rfl
  obtain ⟨x, y, rfl, hq⟩ := h
  refine ⟨_, pss_one (ps_if (pt_not (pt_val (pv 0))) (pss_one (ps_raise rfl (takes_of rfl rfl rfl rfl) (pmk_nu U.txt hr U.g U.sup U.top (pa_cons (pv 1) (pa_cons (pv 2) pa_nil))))) pss_nil), ?_⟩
  exact ⟨_, rfl, false, rfl, _, rfl, _, rfl, x, y, rfl, fun d hd => hq d hd⟩
theorem cal_class_ofR (T : Txt mg) (D : Def K mg "class_of" s_class_of) (c_want : CalD (L2.CX P w) P w K mg base "want" ["is_right", "name", "place"] [.int (-1)] 3 (spWantR C)) :
    CalW (L2.CX P w) P w K mg base "class_of" ["lot"] ["lot"] id 5 (spClassOfR K C) := by
  obtain ⟨f_want, fd_want, ds_want, m_want, k_want, b_want, d_want, G_want⟩ := c_want
  obtain ⟨t_leastC, hleastC⟩ := T.leastC
  refine CalW.make id id (fun _ _ r => r) (fun _ _ _ _ _ _ ws hl => match ws, hl with | [_], _ => rfl) D sc_class_of (fun _ _ _ _ _ _ us hl => match us, hl with | [_], _ => rfl) (fun vs H Q E h => ?_) (fun f cdv A outer s H vs Q E hr h => ?_)
  · obtain ⟨l, a, rfl, _⟩ := h
    rfl
  refine ⟨_, pss_cons (ps_expr (pe_call G_want (hr.mono (by decide)) rfl m_want k_want b_want d_want (passes_call (takes_of rfl rfl rfl rfl) fun _ _ _ _ z => z) (pa_cons (pe_cmpR op_ge (pe_ix ix_tup (pv 0) pe_int (fun _ _ => rfl)) (pe_glob (v := .int 3) rfl hleastC ⟨_, rfl⟩) (nomark _)) (pa_cons pe_str pa_nil)))) pss_never, ?_⟩
  obtain ⟨l, a, rfl, hl, hq⟩ := h
  refine ⟨_, rfl, l, _, 0, _, rfl, rfl, hl, atI_nat (j := 0) rfl, _, _, rfl, rfl, .str "lot", .int (-1), List.cons_eq_cons.mpr ⟨blF (by decide), rfl⟩, fun d hd => hq d hd⟩
end
end RM
namespace RM
open PySem PySem.Spec PyProof.Rows L2
/-! ### e of the class at C, asked for its class and its fields -/
section
variable {X : Cx} {C : Addr}
/-- isinstance(e, c), e the exception that the suite holds -/
def rIsN (K : PySem.W.Frag) (C a : Addr) (cls : Value) (d : Option Addr) : List V → Hp → VK → Prop := fun xs H Q => ∃ (c : V) (cv : Value) (b : Bool) (dd : Addr) (fs : List (Str × V)), xs = [.ref a, c] ∧ cls = .ref C ∧ d = some dd ∧ H dd = some (.xd fs) ∧ (∀ u, RelV c u → u = cv) ∧ PySem.W.kitOne K (.ref C) cv = some b ∧ Q (.bl b) H
theorem call_isN {a : Addr} {oe : Obj} {cls : Value} {d : Option Addr} {pn : List (Addr × Obj)} (T : ExcC X.K C) (hz : Zc cls d oe) (hf : ∃ vs, oe.data = .fields vs) : CallR (X.suite a ((a, oe) :: pn)) (.builtin "isinstance") (rIsN X.K C a cls d) := by
  intro pins s σ H xs us Q I r h
  obtain ⟨c, cv, b, dd, fs, rfl, ec, ed, hd, hcv, e, q⟩ := h
  subst ec
  subst ed
  obtain ⟨u1, u2, rfl, rx, rt⟩ := vals2 r
  obtain rfl : u1 = Value.ref a := rx
  obtain rfl := hcv _ rt
  obtain ⟨hget, _⟩ := I.pin (a, oe) (List.mem_append.mpr (.inl List.mem_cons_self))
  obtain ⟨vs, hv⟩ := hf
  obtain ⟨mA, hns, _⟩ : ObjOk X.prog X.w H s.heap dd (.xd fs) := I.hok dd _ hd
  obtain ⟨od, ho, _⟩ := lookIn_ns hns
  have J : PySem.W.InstAt s.heap a oe C (some od) := ⟨hget, hz.1, by unfold PySem.W.notCls; rw [hv] <;> rfl, by rw [hz.2]; exact ho⟩
  have hcl : (PySem.W.clsIn X.K C).isSome = true := by
    obtain ⟨cd, hc, _⟩ := PySem.W.any_some T.hd
    rw [hc]
    rfl
  exact PySem.W.kia_one (PySem.W.kitx_exc hcl T.hg T.hk T.hs T.ha T.hn T.ht T.hm) I.kIn J e (fun z => nomatch z) fun tk => ⟨.bl b, H, I.kept (t' := tk) fun _ _ z => z, rfl, q⟩
/-- what is taken of an exception may lean on the slots' number -/
theorem takes_len {W : WX} (tk : Takes X W) : Takes X (fun cls d σ H => σ.length = X.N.length → W cls d σ H) := fun u s' ⟨a, B, sI, pins, σ, H, cls, d, e, I, nb, up, sky, na, os, ag, w⟩ =>
  tk u s' ⟨a, B, sI, pins, σ, H, cls, d, e, I, nb, up, sky, na, os, ag, w I.len⟩
end
/-- the names of the errors' classes, and which of them an error of the class at C is -/
structure ClsTxt (K : PySem.W.Frag) (mg : Str → Option Value) (C : Addr) : Prop where
  ray : ∃ a, mg "RayError" = some (.ref a) ∧ PySem.W.exmOne K (.ref C) (.ref a) = some true
  paper : ∃ a, mg "PaperError" = some (.ref a) ∧ PySem.W.kitOne K (.ref C) (.ref a) = some false
  lot : ∃ a, mg "LotError" = some (.ref a) ∧ PySem.W.kitOne K (.ref C) (.ref a) = some true
  live : ∃ a, mg "LiveError" = some (.ref a) ∧ PySem.W.kitOne K (.ref C) (.ref a) = some false
  text : ∃ a, mg "TextError" = some (.ref a) ∧ PySem.W.kitOne K (.ref C) (.ref a) = some false
  ipaper : ∃ a, mg "InvalidPaper" = some (.ref a) ∧ PySem.W.kitOne K (.ref C) (.ref a) = some false
  nu : ∃ a, mg "NotUsable" = some (.ref a) ∧ PySem.W.kitOne K (.ref C) (.ref a) = some true
  marks : ∃ a, mg "NoMarks" = some (.ref a) ∧ PySem.W.kitOne K (.ref C) (.ref a) = some false
  many : ∃ a, mg "TooMany" = some (.ref a) ∧ PySem.W.kitOne K (.ref C) (.ref a) = some false
  ievent : ∃ a, mg "InvalidEvent" = some (.ref a) ∧ PySem.W.kitOne K (.ref C) (.ref a) = some false
  itext : ∃ a, mg "InvalidText" = some (.ref a) ∧ PySem.W.kitOne K (.ref C) (.ref a) = some false
  irow : ∃ a, mg "InvalidRow" = some (.ref a) ∧ PySem.W.kitOne K (.ref C) (.ref a) = some false
  verr : PySem.W.kitOne K (.ref C) (.type "ValueError") = some true
/-- _law_heard of what raises a NotUsable: what it told -/
def TTh (C : Addr) : (XK → Hp → VK → Prop) → Hp → VK → Prop := fun tl H Q =>
  ∀ Q' : VK, tl (fun cls d H' => cls = .ref C ∧ ∃ dd : Addr, d = some dd ∧ H' dd = some (.xd (nuF (.str "lot") (.int (-1)))) ∧ ∀ p H'', Same H' H'' → H'' p = some (.tup [.str "use", .str "lot", .int (-1)]) → Q (.ref p) H'') H Q'
section
variable {X : Cx} {C fI : Addr}
theorem heard_gives (T : RM.Txt X.mg) (U : NuMod X.prog X.K X.mg C fI) (Z : ClsTxt X.K X.mg C) {g : Addr} {cdg : Value} {q : Str} : LamX.GivesTo X n_law_heard "_law_heard" (defScope s_law_heard) g cdg (defBody s_law_heard) "_law_ask" q (TTh C) := by
  intro f c' s H Q tl act hc h
  obtain ⟨a_ray, g_ray, k_ray⟩ := Z.ray
  obtain ⟨a_paper, g_paper, k_paper⟩ := Z.paper
  obtain ⟨a_lot, g_lot, k_lot⟩ := Z.lot
  obtain ⟨a_live, g_live, k_live⟩ := Z.live
  obtain ⟨a_text, g_text, k_text⟩ := Z.text
  obtain ⟨a_ipaper, g_ipaper, k_ipaper⟩ := Z.ipaper
  obtain ⟨a_nu, g_nu, k_nu⟩ := Z.nu
  obtain ⟨a_marks, g_marks, k_marks⟩ := Z.marks
  obtain ⟨a_many, g_many, k_many⟩ := Z.many
  obtain ⟨a_ievent, g_ievent, k_ievent⟩ := Z.ievent
  obtain ⟨a_itext, g_itext, k_itext⟩ := Z.itext
  obtain ⟨a_irow, g_irow, k_irow⟩ := Z.irow
  have k_verr := Z.verr
  refine ⟨_, pss_one (ps_try_as (X := (cxOf C8.CX0 X.prog X.w X.K X.mg X.base n_law_heard "_law_heard" (defScope s_law_heard) g cdg X.A X.stack s H C8.E0).nox) (c := .ref a_ray) (i := 3)
      (tb := fun W D σ H => ∃ Ech : XK, (∀ cls d σ' H', Ech cls d H' → σ'.length = n_law_heard.length → W cls d σ' H') ∧ σ[0]? = some (some (.ref f)) ∧ H c' = some (LamX.CodeO c' q) ∧ ∀ Q', tl Ech H Q')
      rfl rfl sc_law_heard.nd rfl rfl ⟨by rfl, by decide, .inl g_ray⟩ LamX.takes0 (fun W pn xe tk _ => ?_) (fun a oe cls d pn hz hf => (pss_cons (ps_set (i := 1) sc_law_heard.nd rfl (Or.inl rfl) (pe_lst (pa_cons (pe_callB (call_isN (X := (cxOf C8.CX0 X.prog X.w X.K X.mg X.base n_law_heard "_law_heard" (defScope s_law_heard) g cdg X.A X.stack s H C8.E0).nox) U.txt.ec hz hf) (by rfl) T.isinstance (by decide +kernel) (pa_cons (pv 3) (pa_cons (pe_glob (v := .ref a_paper) rfl g_paper rfl) pa_nil))) (pa_cons (pe_callB (call_isN (X := (cxOf C8.CX0 X.prog X.w X.K X.mg X.base n_law_heard "_law_heard" (defScope s_law_heard) g cdg X.A X.stack s H C8.E0).nox) U.txt.ec hz hf) (by rfl) T.isinstance (by decide +kernel) (pa_cons (pv 3) (pa_cons (pe_glob (v := .ref a_lot) rfl g_lot rfl) pa_nil))) (pa_cons (pe_callB (call_isN (X := (cxOf C8.CX0 X.prog X.w X.K X.mg X.base n_law_heard "_law_heard" (defScope s_law_heard) g cdg X.A X.stack s H C8.E0).nox) U.txt.ec hz hf) (by rfl) T.isinstance (by decide +kernel) (pa_cons (pv 3) (pa_cons (pe_glob (v := .ref a_live) rfl g_live rfl) pa_nil))) (pa_cons (pe_callB (call_isN (X := (cxOf C8.CX0 X.prog X.w X.K X.mg X.base n_law_heard "_law_heard" (defScope s_law_heard) g cdg X.A X.stack s H C8.E0).nox) U.txt.ec hz hf) (by rfl) T.isinstance (by decide +kernel) (pa_cons (pv 3) (pa_cons (pe_glob (v := .ref a_text) rfl g_text rfl) pa_nil))) pa_nil))))))
      (pss_cons (ps_set (i := 2) sc_law_heard.nd rfl (Or.inl rfl) (pe_lst (pa_cons (pe_callB (call_isN (X := (cxOf C8.CX0 X.prog X.w X.K X.mg X.base n_law_heard "_law_heard" (defScope s_law_heard) g cdg X.A X.stack s H C8.E0).nox) U.txt.ec hz hf) (by rfl) T.isinstance (by decide +kernel) (pa_cons (pv 3) (pa_cons (pe_glob (v := .ref a_ipaper) rfl g_ipaper rfl) pa_nil))) (pa_cons (pe_callB (call_isN (X := (cxOf C8.CX0 X.prog X.w X.K X.mg X.base n_law_heard "_law_heard" (defScope s_law_heard) g cdg X.A X.stack s H C8.E0).nox) U.txt.ec hz hf) (by rfl) T.isinstance (by decide +kernel) (pa_cons (pv 3) (pa_cons (pe_glob (v := .ref a_nu) rfl g_nu rfl) pa_nil))) (pa_cons (pe_callB (call_isN (X := (cxOf C8.CX0 X.prog X.w X.K X.mg X.base n_law_heard "_law_heard" (defScope s_law_heard) g cdg X.A X.stack s H C8.E0).nox) U.txt.ec hz hf) (by rfl) T.isinstance (by decide +kernel) (pa_cons (pv 3) (pa_cons (pe_glob (v := .ref a_marks) rfl g_marks rfl) pa_nil))) (pa_cons (pe_callB (call_isN (X := (cxOf C8.CX0 X.prog X.w X.K X.mg X.base n_law_heard "_law_heard" (defScope s_law_heard) g cdg X.A X.stack s H C8.E0).nox) U.txt.ec hz hf) (by rfl) T.isinstance (by decide +kernel) (pa_cons (pv 3) (pa_cons (pe_glob (v := .ref a_many) rfl g_many rfl) pa_nil))) pa_nil))))))
      (pss_cons (ps_set (i := 2) sc_law_heard.nd rfl (Or.inl rfl) (pe_op op_cat (pv 2) (pe_lst (pa_cons (pe_callB (call_isN (X := (cxOf C8.CX0 X.prog X.w X.K X.mg X.base n_law_heard "_law_heard" (defScope s_law_heard) g cdg X.A X.stack s H C8.E0).nox) U.txt.ec hz hf) (by rfl) T.isinstance (by decide +kernel) (pa_cons (pv 3) (pa_cons (pe_glob (v := .ref a_ievent) rfl g_ievent rfl) pa_nil))) (pa_cons (pe_callB (call_isN (X := (cxOf C8.CX0 X.prog X.w X.K X.mg X.base n_law_heard "_law_heard" (defScope s_law_heard) g cdg X.A X.stack s H C8.E0).nox) U.txt.ec hz hf) (by rfl) T.isinstance (by decide +kernel) (pa_cons (pv 3) (pa_cons (pe_glob (v := .ref a_itext) rfl g_itext rfl) pa_nil))) (pa_cons (pe_callB (call_isN (X := (cxOf C8.CX0 X.prog X.w X.K X.mg X.base n_law_heard "_law_heard" (defScope s_law_heard) g cdg X.A X.stack s H C8.E0).nox) U.txt.ec hz hf) (by rfl) T.isinstance (by decide +kernel) (pa_cons (pv 3) (pa_cons (pe_glob (v := .ref a_irow) rfl g_irow rfl) pa_nil))) pa_nil))))))
      (pss_cons (ps_if (PW.pt (pw_or (pt_not (pt_val (pe_callB (call_isN (X := (cxOf C8.CX0 X.prog X.w X.K X.mg X.base n_law_heard "_law_heard" (defScope s_law_heard) g cdg X.A X.stack s H C8.E0).nox) U.txt.ec hz hf) (by rfl) T.isinstance (by decide +kernel) (pa_cons (pv 3) (pa_cons (pe_bltn (v := .ty "ValueError") (by rfl) T.verr (by decide +kernel) rfl) pa_nil))))) (pw_or (pt_cmpR op_ne (show PE _ _ (tBM X.K "list" (rCntB X.K) (tVar 1) (tCons (tC (.bl true)) tNil)) from pe_bm PySem.F.plainAttrs_list PySem.F.slot_list_count PySem.F.type_list_count mt_bcount (pv 1) (pa_cons pe_bl pa_nil)) pe_int (nomark _)) (pw_or1 (pt_cmpR op_ne (show PE _ _ (tBM X.K "list" (rCntB X.K) (tVar 2) (tCons (tC (.bl true)) tNil)) from pe_bm PySem.F.plainAttrs_list PySem.F.slot_list_count PySem.F.type_list_count mt_bcount (pv 2) (pa_cons pe_bl pa_nil)) pe_int (nomark _)))))) pss_never pss_nil)
      (pss_cons (ps_if (PW.pt (pw_and (pt_val (pe_ix (ix_listK (K := X.K) rfl) (pv 2) pe_int (fun _ _ => rfl))) (pw_and1 (pt_val (pe_ix (ix_listK (K := X.K) rfl) (pv 1) pe_int (fun _ _ => rfl)))))) pss_never pss_nil)
      (pss_one (ps_ret (pe_ifExp (PW.pt (pw_and (pt_val (pe_ix (ix_listK (K := X.K) rfl) (pv 2) pe_int (fun _ _ => rfl))) (pw_and1 (pt_val (pe_ix (ix_listK (K := X.K) rfl) (pv 1) pe_int (fun _ _ => rfl)))))) (pe_tup (pa_cons pe_str (pa_cons (pe_nuF (X := (cxOf C8.CX0 X.prog X.w X.K X.mg X.base n_law_heard "_law_heard" (defScope s_law_heard) g cdg X.A X.stack s H C8.E0).nox) U.txt U.txt.noW hz hf (pv 3)) (pa_cons (pe_nuF (X := (cxOf C8.CX0 X.prog X.w X.K X.mg X.base n_law_heard "_law_heard" (defScope s_law_heard) g cdg X.A X.stack s H C8.E0).nox) U.txt U.txt.noA hz hf (pv 3)) pa_nil)))) (pe_tup (pa_cons pe_str pa_nil)))))))))))), ?_⟩
  · refine ⟨fun pins s' σ H' D I h' => ?_⟩
    obtain ⟨Ech, hW, h1, h2, h3⟩ := h'
    exact (pss_one (ps_ret (pe_tup (pa_cons pe_str (pa_cons (act _ pn xe Ech _ _ (takes_len tk) hW) pa_nil))))).run pins s' σ H' D I ⟨h1, h2, h3 _⟩
  · refine ⟨_, ?_, rfl, hc, h⟩
    rintro cls d σ' H0 ⟨rfl, dd, rfl, hd, hq⟩ hlen
    match σ', hlen with
    | [x0, x1, x2, x3], _ =>
    refine ⟨true, k_ray, fun _ a _ => ?_, fun z => by cases z⟩
    refine ⟨_, rfl, .ref a_paper, .ref a_paper, false, dd, _, rfl, rfl, rfl, hd, (fun _ h => h), k_paper, _, rfl, .ref a_lot, .ref a_lot, true, dd, _, rfl, rfl, rfl, hd, (fun _ h => h), k_lot, _, rfl, .ref a_live, .ref a_live, false, dd, _, rfl, rfl, rfl, hd, (fun _ h => h), k_live, _, rfl, .ref a_text, .ref a_text, false, dd, _, rfl, rfl, rfl, hd, (fun _ h => h), k_text, by show 4 ≤ sizeLine; decide, fun p1 np1 => ?_⟩
    generalize e1 : upd H0 p1 (.lst [.bl false, .bl true, .bl false, .bl false]) = H1
    have s1 : Same H0 H1 := by rw [← e1]; exact same_new np1
    have hp1 : H1 p1 = some (.lst [.bl false, .bl true, .bl false, .bl false]) := by rw [← e1]; exact upd_same
    have hd1 := s1 _ _ hd
    refine ⟨_, rfl, .ref a_ipaper, .ref a_ipaper, false, dd, _, rfl, rfl, rfl, hd1, (fun _ h => h), k_ipaper, _, rfl, .ref a_nu, .ref a_nu, true, dd, _, rfl, rfl, rfl, hd1, (fun _ h => h), k_nu, _, rfl, .ref a_marks, .ref a_marks, false, dd, _, rfl, rfl, rfl, hd1, (fun _ h => h), k_marks, _, rfl, .ref a_many, .ref a_many, false, dd, _, rfl, rfl, rfl, hd1, (fun _ h => h), k_many, by show 4 ≤ sizeLine; decide, fun p2 np2 => ?_⟩
    generalize e2 : upd H1 p2 (.lst [.bl false, .bl true, .bl false, .bl false]) = H2
    have s2 : Same H1 H2 := by rw [← e2]; exact same_new np2
    have hp2 : H2 p2 = some (.lst [.bl false, .bl true, .bl false, .bl false]) := by rw [← e2]; exact upd_same
    have hd2 := s2 _ _ hd1
    refine ⟨_, rfl, _, rfl, .ref a_ievent, .ref a_ievent, false, dd, _, rfl, rfl, rfl, hd2, (fun _ h => h), k_ievent, _, rfl, .ref a_itext, .ref a_itext, false, dd, _, rfl, rfl, rfl, hd2, (fun _ h => h), k_itext, _, rfl, .ref a_irow, .ref a_irow, false, dd, _, rfl, rfl, rfl, hd2, (fun _ h => h), k_irow, by show 3 ≤ sizeLine; decide, fun p3 np3 => ?_⟩
    generalize e3 : upd H2 p3 (.lst [.bl false, .bl false, .bl false]) = H3
    have s3 : Same H2 H3 := by rw [← e3]; exact same_new np3
    have hp3 : H3 p3 = some (.lst [.bl false, .bl false, .bl false]) := by rw [← e3]; exact upd_same
    refine ⟨p2, p3, _, _, rfl, rfl, s3 _ _ hp2, hp3, by show 7 ≤ sizeLine; decide, fun p4 np4 => ?_⟩
    generalize e4 : upd H3 p4 _ = H4
    have s4 : Same H3 H4 := by rw [← e4]; exact same_new np4
    have hp4 : H4 p4 = some (.lst ([false, true, false, false, false, false, false].map V.bl)) := by rw [← e4]; exact upd_same
    have hp14 : H4 p1 = some (.lst ([false, true, false, false].map V.bl)) := s4 _ _ (s3 _ _ (s2 _ _ hp1))
    have hd4 := s4 _ _ (s3 _ _ hd2)
    refine ⟨_, rfl, .ty "ValueError", .type "ValueError", true, dd, _, rfl, rfl, rfl, hd4, (fun _ h => h), k_verr, true, rfl, iteF ?_⟩
    refine ⟨_, rfl, .inl ⟨rfl, _, .of hp14⟩, p1, [false, true, false, false], true, rfl, rfl, .of hp14, rfl, _, rfl, ifF (neI0 (by decide)) ?_⟩
    refine ⟨_, rfl, .inl ⟨rfl, _, .of hp4⟩, p4, [false, true, false, false, false, false, false], true, rfl, rfl, .of hp4, rfl, _, rfl, ifF (neI0 (by decide)) ?_⟩
    refine ⟨_, rfl, p4, _, 0, .bl false, rfl, rfl, .of hp4, atI_nat (j := 0) rfl, false, rfl, iteF ?_⟩
    refine ⟨_, rfl, p4, _, 1, .bl true, rfl, rfl, .of hp4, atI_nat (j := 1) rfl, true, rfl, iteT ?_⟩
    refine ⟨_, rfl, p1, _, 1, .bl true, rfl, rfl, .of hp14, atI_nat (j := 1) rfl, true, rfl, iteT ?_⟩
    refine ⟨_, rfl, rfl, rfl, dd, _, _, _, rfl, hd4, by rfl, ?_⟩
    refine ⟨_, rfl, rfl, rfl, dd, _, _, _, rfl, hd4, by rfl, ?_⟩
    refine ⟨by show 3 ≤ sizeLine; decide, fun p5 np5 => ?_⟩
    exact hq p5 _ (((s1.trans s2).trans (s3.trans s4)).trans (same_new np5)) upd_same
end
end RM
namespace RM
open PySem PySem.Spec PyProof.Rows L2
/-! ### data that repr shows -/
structure DA (ds : List PyData) (W D : Nat) : Prop where
  sh : PyData.showableAll ds = true
  nd : PyData.hasDictAll ds = false
  ls : PyData.leavesShortAll 300 ds = true
  w : PyData.weightAll ds ≤ W
  d : PyData.depthAll ds ≤ D
structure D1 (x : PyData) (W D : Nat) : Prop where
  sh : PyData.showable x = true
  nd : PyData.hasDict x = false
  ls : PyData.leavesShort 300 x = true
  w : PyData.weight x ≤ W
  d : PyData.depth x ≤ D
theorem DA.nil {D : Nat} : DA [] 0 D := ⟨by simp [PyData.showableAll], by simp [PyData.hasDictAll], by simp [PyData.leavesShortAll], by simp [PyData.weightAll], by simp [PyData.depthAll]⟩
theorem DA.cons {x : PyData} {xs : List PyData} {w W D : Nat} (a : D1 x w D) (b : DA xs W D) : DA (x :: xs) (w + 1 + W) D := by
  refine ⟨by simp [PyData.showableAll, a.sh, b.sh], by simp [PyData.hasDictAll, a.nd, b.nd], by simp [PyData.leavesShortAll, a.ls, b.ls], ?_, ?_⟩
  · have := a.w
    have := b.w
    simp only [PyData.weightAll]
    omega
  · have := a.d
    have := b.d
    simp only [PyData.depthAll]
    omega
theorem D1.tup {ds : List PyData} {W D : Nat} (a : DA ds W D) : D1 (.tuple ds) W (D + 1) :=
  ⟨by simpa [PyData.showable] using a.sh, by simpa [PyData.hasDict] using a.nd, by simpa [PyData.leavesShort] using a.ls, by simpa [PyData.weight] using a.w, by simpa [PyData.depth] using a.d⟩
theorem D1.lst {ds : List PyData} {W D : Nat} (a : DA ds W D) : D1 (.list ds) W (D + 1) :=
  ⟨by simpa [PyData.showable] using a.sh, by simpa [PyData.hasDict] using a.nd, by simpa [PyData.leavesShort] using a.ls, by simpa [PyData.weight] using a.w, by simpa [PyData.depth] using a.d⟩
theorem D1.int {n : Int} {D : Nat} (h : n.natAbs < 2 ^ 20) : D1 (.int n) 21 D := by
  have l : n.natAbs.log2 < 20 := PySem.Flt.log2_lt_of (by decide) h
  refine ⟨?_, by simp [PyData.hasDict], ?_, ?_, by simp [PyData.depth]⟩
  · simp only [PyData.showable, decide_eq_true_eq]
    omega
  · have e := int_text_length_le (a := n) (k := 20) (by decide) l
    have e2 : (PyData.shown (.int n)).length ≤ 300 := by
      show (Str.ofString (toString n)).length ≤ 300
      rw [PySem.ofString_length]
      omega
    simp only [PyData.leavesShort]
    exact decide_eq_true e2
  · simp only [PyData.weight]
    split <;> omega
theorem D1.str {x : Str} {D : Nat} (h : x.cps.toList.all (fun c => decide (c < 16 ^ 8)) = true) : D1 (.str x) x.cps.size D :=
  ⟨by simp [PyData.showable], by simp [PyData.hasDict], by simp only [PyData.leavesShort]; exact h, by simp [PyData.weight], by simp [PyData.depth]⟩
theorem DA.ints {D : Nat} : ∀ ns : List Int, (∀ n ∈ ns, n.natAbs < 2 ^ 20) → DA (ns.map PyData.int) (22 * ns.length) D
  | [], _ => DA.nil
  | n :: ns, h => by
    have a := DA.cons (D1.int (D := D) (h n List.mem_cons_self)) (DA.ints ns fun m hm => h m (List.mem_cons_of_mem _ hm))
    have e : 21 + 1 + 22 * ns.length = 22 * (n :: ns).length := by rw [List.length_cons]; omega
    rw [e] at a
    exact a
def rayD (r : List Int) : PyData := .tuple (r.map PyData.int)
theorem DA.rays {D : Nat} : ∀ rs : List (List Int), (∀ r ∈ rs, r.length ≤ 5 ∧ ∀ n ∈ r, n.natAbs < 2 ^ 20) → DA (rs.map rayD) (111 * rs.length) (D + 1)
  | [], _ => DA.nil
  | r :: rs, h => by
    obtain ⟨h1, h2⟩ := h r List.mem_cons_self
    have b := D1.tup (DA.ints (D := D) r h2)
    have b2 : D1 (rayD r) 110 (D + 1) := ⟨b.sh, b.nd, b.ls, Nat.le_trans b.w (by omega), b.d⟩
    have a := DA.cons b2 (DA.rays rs fun m hm => h m (List.mem_cons_of_mem _ hm))
    have e : 110 + 1 + 111 * rs.length = 111 * (r :: rs).length := by rw [List.length_cons]; omega
    rw [e] at a
    exact a
theorem D1.ok {x : PyData} {W D : Nat} (a : D1 x W D) (hw : W ≤ 20000) (hd : D ≤ 8) : DOk x := ⟨a.sh, a.nd, Nat.le_trans a.d hd, a.ls, Nat.le_trans a.w hw⟩
def lotD (size : Int) (rs : List (List Int)) : PyData := .tuple [.int size, .tuple (rs.map rayD)]
theorem lot_ok {size : Int} {rs : List (List Int)} (hs : size.natAbs < 2 ^ 20) (hr : ∀ r ∈ rs, r.length ≤ 5 ∧ ∀ n ∈ r, n.natAbs < 2 ^ 20) (hl : rs.length ≤ 60) : DOk (lotD size rs) := by
  refine D1.ok (W := 21 + 1 + (111 * rs.length + 1 + 0)) (D := 0 + 1 + 1 + 1) (D1.tup (DA.cons (D1.int hs) (DA.cons (D1.tup (DA.rays rs hr)) DA.nil))) (by omega) (by decide)
theorem DpAll.ints {K : PySem.W.Frag} {H : Hp} (ns : List Int) : DpAll K H (ns.map V.int) (ns.map PyData.int) := (dp_ints ns).1
theorem DpAll.rays {K : PySem.W.Frag} {H : Hp} : ∀ {vs : List V} {rs : List (List Int)}, RaysAt K H vs rs → DpAll K H vs (rs.map rayD)
  | [], [], _ => .nil
  | [], _ :: _, h => by
    have := h.1
    simp at this
  | _ :: _, [], h => by
    have := h.1
    simp at this
  | v :: vs, r :: rs, h => by
    obtain ⟨r', a, h1, h2, h3⟩ := h.2 0 v rfl
    obtain rfl := Option.some.inj h1
    subst h2
    exact .cons (.tup h3 (DpAll.ints _)) (DpAll.rays ⟨Nat.succ.inj h.1, fun i v hv => h.2 (i + 1) v hv⟩)
theorem lot_dp {K : PySem.W.Frag} {H : Hp} {l : Addr} {size : Int} {rs : List (List Int)} (h : LotAt K H l size rs) : Dp K H (.ref l) (lotD size rs) := by
  obtain ⟨a, vs, h1, h2, h3⟩ := h
  exact .tup h1 (.cons (.int _) (.cons (.tup h2 (DpAll.rays h3)) .nil))
/-- the class: a size and its primes, twice -/
def clsD (size : Int) (ps : List Nat) : PyData := .tuple [.int size, .tuple ((zs ps).map PyData.int)]
theorem cls_ok {size : Int} {ps : List Nat} (hs : size.natAbs < 2 ^ 20) (hp : ∀ p ∈ ps, p < 1000000) (hl : ps.length ≤ 60) : DOk (.list [clsD size ps, clsD size ps]) := by
  have hz : ∀ n ∈ zs ps, n.natAbs < 2 ^ 20 := fun n hn => by
    obtain ⟨p, hm, rfl⟩ := List.mem_map.mp hn
    have := hp p hm
    omega
  have lz : (zs ps).length = ps.length := List.length_map ..
  have one : D1 (clsD size ps) 1400 2 := by
    have a := D1.tup (DA.cons (D1.int (D := 1) hs) (DA.cons (D1.tup (DA.ints (D := 0) (zs ps) hz)) DA.nil))
    exact ⟨a.sh, a.nd, a.ls, Nat.le_trans a.w (by rw [lz]; omega), a.d⟩
  exact D1.ok (D1.lst (DA.cons one (DA.cons one DA.nil))) (by decide) (by decide)
theorem cls_dp {K : PySem.W.Frag} {H : Hp} {c p : Addr} {size : Int} {ps : List Nat} (h1 : SqT K H c [.int size, .ref p]) (h2 : SqT K H p ((zs ps).map V.int)) : Dp K H (.ref c) (clsD size ps) := .tup h1 (.cons (.int _) (.cons (.tup h2 (DpAll.ints _)) .nil))
/-- what was heard, twice -/
def useD : PyData := .tuple [.str "use", .str "lot", .int (-1)]
theorem use_ok : DOk (.list [useD, useD]) := by
  have one : D1 useD 60 1 := by
    have a := D1.tup (DA.cons (D1.str (x := "use") (D := 0) (by decide)) (DA.cons (D1.str (x := "lot") (by decide)) (DA.cons (D1.int (n := -1) (by decide)) DA.nil)))
    exact ⟨a.sh, a.nd, a.ls, Nat.le_trans a.w (by decide), a.d⟩
  exact D1.ok (D1.lst (DA.cons one (DA.cons one DA.nil))) (by decide) (by decide)
theorem use_dp {K : PySem.W.Frag} {H : Hp} {c : Addr} (h1 : SqT K H c [.str "use", .str "lot", .int (-1)]) : Dp K H (.ref c) useD := .tup h1 (.cons (.str _) (.cons (.str _) (.cons (.int _) .nil)))
/-! ### the tables of lambdas -/
open LamX in
theorem Tabs.lput {T : List (Addr × Str)} {H : Hp} {h : Addr} {xs ys : List V} (t : Tabs T H) (hl : H h = some (.lst xs)) : Tabs T (upd H h (.lst ys)) := fun p hp => by
  obtain ⟨ps, h1, h2, h3⟩ := t p hp
  refine ⟨ps, ?_, h2, fun pos cv e => ?_⟩
  · rw [upd_ne (fun z => by rw [z, hl] at h1; cases h1)]
    exact h1
  · obtain ⟨c, e1, e2⟩ := h3 pos cv e
    refine ⟨c, e1, ?_⟩
    rw [upd_ne (fun z => by rw [z, hl] at e2; exact nomatch e2)]
    exact e2
open LamX in
theorem ExtN.t {K : PySem.W.Frag} {H H' : Hp} {a : Addr} {xs : List V} (e : ExtN H H') (h : SqT K H a xs) : SqT K H' a xs := by
  rcases h with (h | ⟨o, h⟩) | h
  · exact .inl (.inl (e _ _ h fun ps z => by cases z))
  · exact .inl (.inr ⟨o, e _ _ h fun ps z => by cases z⟩)
  · exact .inr h
open LamX in
theorem ExtN.l {H H' : Hp} {a : Addr} {xs : List V} (e : ExtN H H') (h : H a = some (.lst xs)) : H' a = some (.lst xs) := e _ _ h fun ps z => by cases z
open LamX in
theorem ExtN.put {H H2 H5 : Hp} {h : Addr} {o : HO} (x : ExtN H H2) (y : ExtN H2 H5) (hn : H2 h = none) : ExtN H (upd H5 h o) := fun b p e n => by
  have e2 := x b p e n
  rw [upd_ne (ne_of_none e2 hn)]
  exact y b p e2 n
end RM
namespace RM
open PySem PySem.Spec PyProof.Rows L2
def qL : Str := (("_law_is_lot_right" : Str) ++ ".<locals>.") ++ "<lambda>"
def spLotRight (K : PySem.W.Frag) (tP : Addr) : Sp := fun vs H Q _ => ∃ (l : Addr) (size : Int) (rs : List (List Int)), vs = [.ref l] ∧ LamX.Tabs [(tP, qL)] H ∧ LotAt K H l size rs ∧ (size = 2 ∨ (LotOk size rs ∧ ∀ r ∈ rs, ∀ n ∈ r, n.natAbs < 2 ^ 20)) ∧
  ∀ H', LamX.ExtN H H' → LamX.Tabs [(tP, qL)] H' → Q (.bl true) H'
theorem PDs.ok {size : Int} {rs : List (List Int)} {ps : List Nat} (h : PDs rs ps) (ok : LotOk size rs) (hl : ps.length ≤ 60) : PrimesOk ps :=
  ⟨fun p hp => by
    obtain ⟨r, hr, pp, hd⟩ := (h.mem p).mp hp
    have s := (ok.ray r hr).2
    exact ⟨pp, Nat.lt_of_le_of_lt (Nat.le_of_dvd s.pos hd) s.few⟩, h.asc, by omega⟩
theorem PrimesOk.fil {b : List Nat} (h : PrimesOk b) (f : Nat → Bool) : PrimesOk (b.filter f) :=
  ⟨fun p hp => h.pr p (List.mem_filter.mp hp).1, h.asc.sublist List.filter_sublist, Nat.le_trans (List.length_filter_le ..) h.len⟩
section
variable {P : Program} {w : World} {K : PySem.W.Frag} {mg : Str → Option Value} {base : Heap} {C fI cT tP : Addr}
theorem cal_law_is_lot_right (T : Txt mg) (D : DefC K mg "_law_is_lot_right" s_law_is_lot_right cT) (c_law_primes : Cal CX0 P w K mg base "_law_primes" ["_law_number"] 2 (spPrimesBy K)) (c_law_dot : Cal CX0 P w K mg base "_law_dot" ["_law_first", "_law_second"] 2 (spDot K)) (c_is_class : Cal CX0 P w K mg base "is_class" ["thing"] 8 (spIsClass K)) (c_class_of : CalW CX0 P w K mg base "class_of" ["lot"] ["lot"] id 8 (spClassOf K)) (c_is_in_class : CalW CX0 P w K mg base "is_in_class" ["size", "primes", "ray"] ["ray", "size", "primes"] perm3 10 (spInClass K)) (c_law_same : CalG CX0 P w K mg base "_law_same" ["_law_told", "_law_due"] 2 (spSame K)) (U : NuMod P K mg C fI) (Z : ClsTxt K mg C) (D_heard : Def K mg "_law_heard" s_law_heard) (c_class_ofR : CalW (L2.CX P w) P w K mg base "class_of" ["lot"] ["lot"] id 5 (spClassOfR K C)) (TB : LamX.TabB base mg cT tP) : CalG CX0 P w K mg base "_law_is_lot_right" ["_law_heap_here"] 18 (spLotRight K tP) := by
  obtain ⟨f_law_primes, fd_law_primes, m_law_primes, k_law_primes, b_law_primes, G_law_primes⟩ := c_law_primes
  obtain ⟨f_law_dot, fd_law_dot, m_law_dot, k_law_dot, b_law_dot, G_law_dot⟩ := c_law_dot
  obtain ⟨f_is_class, fd_is_class, m_is_class, k_is_class, b_is_class, G_is_class⟩ := c_is_class
  obtain ⟨f_law_same, fd_law_same, m_law_same, k_law_same, b_law_same, G_law_same⟩ := c_law_same
  obtain ⟨f_is_in_class, fd_is_in_class, m_is_in_class, k_is_in_class, b_is_in_class, ⟨g_is_in_class, kw_is_in_class⟩, G_is_in_class⟩ := c_is_in_class
  obtain ⟨f_class_of, fd_class_of, m_class_of, k_class_of, b_class_of, ⟨g_class_of, kw_class_of⟩, G_class_of⟩ := c_class_of
  obtain ⟨f_class_ofR, fd_class_ofR, m_class_ofR, k_class_ofR, b_class_ofR, ⟨g_class_ofR, kw_class_ofR⟩, G_class_ofR⟩ := c_class_ofR
  obtain ⟨f_heard, fd_heard, m_heard, F_heard⟩ := D_heard
  have b_heard := F_heard.bindsN (ps := ["_law_ask"]) fun _ _ _ _ _ _ us hl => match us, hl with | [_], _ => rfl
  obtain ⟨oc_h, od_h, dV_h, kV_h, doc_h, pm_h, an_h, cd_h, ct_h, osl_h, e_heard, lk_heard, cd_heard, _, _⟩ := id F_heard.ex
  subst e_heard
  refine CalG.makeC D sc_law_is_lot_right (fun _ _ _ _ _ _ us hl => match us, hl with | [_], _ => rfl) (fun vs H Q E h => ?_) (fun f A outer s H vs Q E hg hr h => ?_)
  · obtain ⟨l, size, rs, rfl, _⟩ := h
    rfl
  refine ⟨_, PSs.nox (pss_cons (ps_if (pt_cmpR op_eq (pe_ix (ix_tupK (K := K) rfl) (pv 0) pe_int (fun _ _ => rfl)) pe_int (nomark _)) (pss_cons (ps_set (i := 5) sc_law_is_lot_right.nd rfl (Or.inl rfl) (pe_lst (pa_cons (LamX.pe_lamcall (T := [(tP, qL)]) (TT := TTh C) (Ng := n_law_heard) (c := cT) (P := tP) (k := 6) (by rfl) m_heard F_heard.kp lk_heard cd_heard b_heard sc_law_heard rfl (Or.inl rfl) (heard_gives T U Z) TB rfl (List.mem_singleton.mpr rfl) (fun p hp _ => by rw [List.mem_singleton.mp hp] <;> rfl) (hr.mono (by decide)) (LamX.lamS_by (by kernel_rfl)) (by rfl) (fun _ _ _ _ _ => by rfl) (fun A' outer' s' H' E' f' c' hr' => (pe_call G_class_ofR (hr'.mono (by decide)) rfl m_class_ofR k_class_ofR b_class_ofR .nil (passes_call (takes_of rfl rfl rfl rfl) fun _ _ _ _ z => z) (pa_cons (pv 0) pa_nil)))) pa_nil)))
    (pss_cons (ps_expr (pe_bm PySem.F.plainAttrs_list PySem.F.slot_list_append PySem.F.type_list_append mt_append (pv 5) (pa_cons (LamX.pe_lamcall (T := [(tP, qL)]) (TT := TTh C) (Ng := n_law_heard) (c := cT) (P := tP) (k := 6) (by rfl) m_heard F_heard.kp lk_heard cd_heard b_heard sc_law_heard rfl (Or.inl rfl) (heard_gives T U Z) TB rfl (List.mem_singleton.mpr rfl) (fun p hp _ => by rw [List.mem_singleton.mp hp] <;> rfl) (hr.mono (by decide)) (LamX.lamS_by (by kernel_rfl)) (by rfl) (fun _ _ _ _ _ => by rfl) (fun A' outer' s' H' E' f' c' hr' => (pe_kw G_class_ofR (hr'.mono (by decide)) rfl m_class_ofR k_class_ofR kw_class_ofR (passes_call (takes_of rfl rfl rfl rfl) fun _ _ _ _ z => z) (pk_cons (pv 0) pk_nil)))) pa_nil)))
    (pss_one (ps_ret (pe_callG hg G_law_same (hr.mono (by decide)) rfl m_law_same k_law_same b_law_same pass0 (pa_cons (pv 5) (pa_cons (pe_op op_rep (pe_lst (pa_cons (pe_tup (pa_cons pe_str (pa_cons pe_str (pa_cons (pe_un un_neg pe_int) pa_nil)))) pa_nil)) pe_int) pa_nil))))))) pss_nil)
    (pss_cons (ps_par (i := 6) (j := 7) (by rfl) sc_law_is_lot_right.nd rfl rfl (by decide) rfl rfl (pa_cons (pe_lst pa_nil) (pa_cons (pe_callB (cr_repr hg hr.units) (by rfl) T.repr (by decide +kernel) (pa_cons (pv 0) pa_nil)) pa_nil)) (by rfl))
    (pss_cons (ps_for PassesOwn.never rfl (pi_tup (pe_ix (ix_tupK (K := K) rfl) (pv 0) pe_int (fun _ _ => rfl))) (pg_name (i := 1) sc_law_is_lot_right.nd rfl (Or.inl rfl))
      (pss_one (ps_set (i := 6) sc_law_is_lot_right.nd rfl (Or.inl rfl) (pe_op op_cat (pv 6) (pe_callTy call_list_of (by rfl) T.list (by decide +kernel) (pa_cons (pe_call G_law_primes (hr.mono (by decide)) rfl m_law_primes k_law_primes b_law_primes .nil pass0 (pa_cons (pe_call G_law_dot (hr.mono (by decide)) rfl m_law_dot k_law_dot b_law_dot .nil pass0 (pa_cons (pv 1) (pa_cons (pv 1) pa_nil))) pa_nil)) pa_nil))))))
    (pss_cons (ps_set (i := 2) sc_law_is_lot_right.nd rfl (Or.inr rfl) (pe_callTy call_tuple_of (by rfl) T.tuple (by decide +kernel) (pa_cons (pe_callB (cr_sortedSet rfl) (by rfl) T.sorted (by decide +kernel) (pa_cons (pe_callTy (cr_setInts rfl) (by rfl) T.set (by decide +kernel) (pa_cons (pv 6) pa_nil)) pa_nil)) pa_nil)))
    (pss_cons (ps_set (i := 3) sc_law_is_lot_right.nd rfl (Or.inl rfl) (pe_lst (pa_cons (pe_call G_class_of (hr.mono (by decide)) rfl m_class_of k_class_of b_class_of .nil pass0 (pa_cons (pv 0) pa_nil)) (pa_cons (pe_kw G_class_of (hr.mono (by decide)) rfl m_class_of k_class_of kw_class_of pass0 (pk_cons (pv 0) pk_nil)) pa_nil))))
    (pss_cons (ps_if (PW.pt (pw_or (pt_not (pt_val (pe_callG hg G_law_same (hr.mono (by decide)) rfl m_law_same k_law_same b_law_same pass0 (pa_cons (pv 3) (pa_cons (pe_op op_rep (pe_lst (pa_cons (pe_tup (pa_cons (pe_ix (ix_tupK (K := K) rfl) (pv 0) pe_int (fun _ _ => rfl)) (pa_cons (pv 2) pa_nil))) pa_nil)) pe_int) pa_nil))))) (pw_or (pt_cmpR op_notBl (pe_call G_is_class (hr.mono (by decide)) rfl m_is_class k_is_class b_is_class .nil pass0 (pa_cons (pe_ix ix_list (pv 3) pe_int (fun _ _ => rfl)) pa_nil)) pe_bl (nomark _)) (pw_or1 (pt_cmpR op_ne (pe_callB (cr_repr hg hr.units) (by rfl) T.repr (by decide +kernel) (pa_cons (pv 0) pa_nil)) (pv 7) (nomark _)))))) (pss_one (ps_ret pe_bl)) pss_nil)
    (pss_cons (ps_if (pt_cmpR (op_neE hr.units) (pe_lc (own := [("_law_beam", 1)]) (g := (gName 1)) rfl sc_law_is_lot_right.nd (pi_tup (pe_ix (ix_tupK (K := K) rfl) (pv 0) pe_int (fun _ _ => rfl))) (blkOk_by (N := n_law_is_lot_right) (sc := defScope s_law_is_lot_right) (by decide +kernel)) (fun _ _ _ _ _ => (pg_name (i := 1) sc_law_is_lot_right.nd rfl (Or.inl rfl))) (fun _ _ _ _ _ => (pts_one (pt_cmpR op_notBl (pe_call G_is_in_class (hr.mono (by decide)) rfl m_is_in_class k_is_in_class b_is_in_class .nil pass0 (pa_cons (pe_ix (ix_tupK (K := K) rfl) (pv 0) pe_int (fun _ _ => rfl)) (pa_cons (pv 2) (pa_cons (pv 1) pa_nil)))) pe_bl (nomark _)))) (fun _ _ _ _ _ => (pv 1))) (pe_lst pa_nil) (nomark _)) (pss_one (ps_ret pe_bl)) pss_nil)
    (pss_cons (ps_for PassesOwn.never rfl (pi_tup (pv 2)) (pg_name (i := 4) sc_law_is_lot_right.nd rfl (Or.inr rfl))
      (pss_cons (ps_set (i := 8) sc_law_is_lot_right.nd rfl (Or.inr rfl) (pe_callTy call_tuple_of (by rfl) T.tuple (by decide +kernel) (pa_cons (pe_lc (own := [("_law_one", 9)]) (g := (gName 9)) rfl sc_law_is_lot_right.nd (pi_tup (pv 2)) (blkOk_by (N := n_law_is_lot_right) (sc := defScope s_law_is_lot_right) (by decide +kernel)) (fun _ _ _ _ _ => (pg_name (i := 9) sc_law_is_lot_right.nd rfl (Or.inl rfl))) (fun _ _ _ _ _ => (pts_one (pt_cmpR op_ne (pv 9) (pv 4) (nomark _)))) (fun _ _ _ _ _ => (pv 9))) pa_nil)))
    (pss_one (ps_if (pt_cmpR (op_eqE hr.units) (pe_lc (own := [("_law_beam", 1)]) (g := (gName 1)) rfl sc_law_is_lot_right.nd (pi_tup (pe_ix (ix_tupK (K := K) rfl) (pv 0) pe_int (fun _ _ => rfl))) (blkOk_by (N := n_law_is_lot_right) (sc := defScope s_law_is_lot_right) (by decide +kernel)) (fun _ _ _ _ _ => (pg_name (i := 1) sc_law_is_lot_right.nd rfl (Or.inl rfl))) (fun _ _ _ _ _ => (pts_one (pt_not (pt_val (pe_call G_is_in_class (hr.mono (by decide)) rfl m_is_in_class k_is_in_class b_is_in_class .nil pass0 (pa_cons (pe_ix (ix_tupK (K := K) rfl) (pv 0) pe_int (fun _ _ => rfl)) (pa_cons (pv 8) (pa_cons (pv 1) pa_nil)))))))) (fun _ _ _ _ _ => (pv 1))) (pe_lst pa_nil) (nomark _)) (pss_one (ps_ret pe_bl)) pss_nil))))
    (pss_one (ps_ret pe_bl)))))))))), ?_⟩
  obtain ⟨l, size, rs, rfl, hT, hL, hor, hq⟩ := h
  obtain ⟨a, vs, hl, ha, hrs⟩ := id hL
  refine ⟨_, rfl, l, _, 0, _, rfl, rfl, hl, atI_nat (j := 0) rfl, rfl, _, rfl, ?_⟩
  by_cases h2 : size = 2
  · subst h2
    refine ifT (eqI rfl) ?_
    -- the first lambda
    refine ⟨hT, fun H1 e1 T1 Q' => ?_⟩
    refine ⟨_, rfl, l, .ref a, rfl, ExtN.t e1 hl, fun d1 hd1 => ⟨rfl, d1, rfl, upd_same, fun p1 H2 s2 hp1 => ?_⟩⟩
    have s12 : Same H1 H2 := (same_new hd1).trans s2
    have e2 : LamX.ExtN H H2 := e1.trans (LamX.ExtN.of s12)
    have T2 : LamX.Tabs [(tP, qL)] H2 := T1.ext s12
    refine ⟨by show 1 ≤ sizeLine; decide, fun h1 nh1 => ?_⟩
    generalize eH3 : upd H2 h1 (.lst [.ref p1]) = H3
    have s3 : Same H2 H3 := by rw [← eH3]; exact same_new nh1
    have hh3 : H3 h1 = some (.lst [.ref p1]) := by rw [← eH3]; exact upd_same
    have e3 := e2.trans (LamX.ExtN.of s3)
    have T3 := T2.ext s3
    -- the second
    refine ⟨_, rfl, .inl ⟨rfl, _, .of hh3⟩, T3, fun H4 e4 T4 Q'' => ?_⟩
    refine ⟨_, rfl, rfl, l, .ref a, rfl, ExtN.t (e3.trans e4) hl, fun d2 hd2 => ⟨rfl, d2, rfl, upd_same, fun p2 H5 s5 hp2 => ?_⟩⟩
    have s45 : Same H4 H5 := (same_new hd2).trans s5
    have e5 : LamX.ExtN H3 H5 := e4.trans (LamX.ExtN.of s45)
    have T5 := T4.ext s45
    have hh5 := ExtN.l e5 hh3
    have hp15 : SqT K H5 p1 [.str "use", .str "lot", .int (-1)] := ExtN.t e5 (.of (s3 _ _ hp1))
    refine ⟨h1, _, _, rfl, rfl, hh5, by show 1 < sizeLine; decide, ?_⟩
    have T6 := Tabs.lput (ys := [.ref p1, .ref p2]) T5 hh5
    have e6 : LamX.ExtN H (upd H5 h1 (.lst [.ref p1, .ref p2])) := ExtN.put e2 ((LamX.ExtN.of s3).trans e5) nh1
    have hp16 := t_put (l := [.ref p1, .ref p2]) hh5 hp15
    have hp26 : SqT K (upd H5 h1 (.lst [.ref p1, .ref p2])) p2 [.str "use", .str "lot", .int (-1)] := t_put hh5 (.of hp2)
    have hh6 : upd H5 h1 (.lst [.ref p1, .ref p2]) h1 = some (.lst [.ref p1, .ref p2]) := upd_same
    show _
    have key : ∀ H6 : Hp, upd H5 h1 (.lst [.ref p1, .ref p2]) = H6 → LamX.Tabs [(tP, qL)] H6 ∧ LamX.ExtN H H6 ∧ SqT K H6 p1 [.str "use", .str "lot", .int (-1)] ∧ SqT K H6 p2 [.str "use", .str "lot", .int (-1)] ∧ H6 h1 = some (.lst [.ref p1, .ref p2]) := fun H6 e => by
      rw [← e]
      exact ⟨T6, e6, hp16, hp26, hh6⟩
    generalize eH6 : upd H5 h1 _ = H6
    obtain ⟨T6, e6, hp16, hp26, hh6⟩ := key H6 eH6
    refine ⟨_, rfl, _, rfl, by show 3 ≤ sizeLine; decide, fun t nt => ⟨by show 1 ≤ sizeLine; decide, fun q nq => ?_⟩⟩
    generalize eH8 : upd (upd H6 t (.tup [.str "use", .str "lot", .int (-1)])) q (.lst [.ref t]) = H8
    have s68 : Same H6 H8 := by rw [← eH8]; exact same_add (same_new nt) nq
    have ht8 : SqT K H8 t [.str "use", .str "lot", .int (-1)] := by rw [← eH8]; exact .of (by rw [upd_ne (ne_of_none upd_same nq)]; exact upd_same)
    have hq8 : H8 q = some (.lst [.ref t]) := by rw [← eH8]; exact upd_same
    refine ⟨q, 2, _, rfl, rfl, hq8, by decide, by decide, by show 1 * 2 ≤ sizeLine; decide, fun r nr => ?_⟩
    have s9 : Same H8 (upd H8 r (.lst [.ref t, .ref t])) := same_new nr
    refine ⟨h1, r, .list [useD, useD], rfl, .lst (.of (s9 _ _ (s68 _ _ hh6))) (.cons (use_dp (same_t (s68.trans s9) hp16)) (.cons (use_dp (same_t (s68.trans s9) hp26)) .nil)), .lst (.of upd_same) (.cons (use_dp (same_t s9 ht8)) (.cons (use_dp (same_t s9 ht8)) .nil)), use_ok, ?_⟩
    exact hq _ (e6.trans (LamX.ExtN.of (s68.trans s9))) (T6.ext (s68.trans s9))
  refine ifF (eqI0 h2) ?_
  obtain ⟨ok, small⟩ := hor.resolve_left h2
  obtain ⟨m, hm, hmn, hn60⟩ := ok.few
  have lo := ok.lo
  have hi5 := ok.hi
  have dok : DOk (lotD size rs) := lot_ok (by omega) (fun r hr => ⟨by have := (ok.ray r hr).1; omega, small r hr⟩) hn60
  refine ⟨Nat.zero_le _, fun f0 nf0 => ?_⟩
  have s0 := same_new (o := .lst []) nf0
  refine ⟨_, rfl, l, _, rfl, lot_dp (hL.same s0), dok, _, _, rfl, ?_⟩
  generalize eW : (lotD size rs).shown = was
  generalize eH0 : upd H f0 (.lst []) = H0 at s0
  have hf0 : H0 f0 = some (.lst []) := by rw [← eH0]; exact upd_same
  refine ⟨_, rfl, l, _, 1, _, rfl, rfl, same_t s0 hl, atI_nat (j := 1) rfl, a, rfl, ⟨_, same_t s0 ha⟩, for_tup (K := K) (a := a) (xs := vs) (fun i σ H' => ∃ (f : Addr) (fs : List Nat) (y1 : Option V), σ = [some (.ref l), y1, none, none, none, none, some (.ref f), some (.str was), none, none] ∧ Same H0 H' ∧
      H' f = some (.lst ((zs fs).map V.int)) ∧ (∀ q, q ∈ fs ↔ ∃ r ∈ rs.take i, Pr q ∧ q ∣ lenN r) ∧ fs.length ≤ i * m) ⟨f0, [], none, rfl, Same.refl _, hf0, fun q => by simp, Nat.zero_le _⟩ (fun i σ H' _ z => ?_) ?_ ?_⟩
  · obtain ⟨_, _, _, _, s, _⟩ := z
    exact same_t (s0.trans s) ha
  · rintro i v σ H1 hi ⟨f, fs, y1, rfl, s1, hf, hin, hle⟩
    obtain ⟨r, b, hr1, rfl, hr2⟩ := hrs.2 i v hi
    have hr2 := same_t (s0.trans s1) hr2
    have hrm := ok.ray r (List.mem_of_getElem? hr1)
    have il : i < rs.length := (List.getElem?_eq_some_iff.mp hr1).1
    refine ⟨_, rfl, _, rfl, _, rfl, b, b, r, r, rfl, hr2, hr2, rfl, by omega, hrm.2.fits, hrm.2.fits, fun H2 s2 => ?_⟩
    rw [dot_lenN]
    refine ⟨lenN r, rfl, hrm.2.pos, hrm.2.few, fun ds t H3 pd hd s3 h3 => ⟨t, _, rfl, .inr (.of h3), fun l2 nl2 => ?_⟩⟩
    have dl : ds.length ≤ m := by
      rw [pd.ext (primeDivs_pd hrm.2.pos)]
      exact hm r (List.mem_of_getElem? hr1)
    have fl : fs.length + ds.length ≤ 60 := by
      have : (i + 1) * m ≤ rs.length * m := Nat.mul_le_mul_right m (by omega)
      have e : (i + 1) * m = i * m + m := Nat.succ_mul i m
      omega
    have s4 := same_new (o := .lst ((zs ds).map V.int)) nl2
    refine ⟨f, l2, _, _, rfl, rfl, s4 _ _ (s3 _ _ (s2 _ _ hf)), upd_same, ?_, fun g ng => ?_⟩
    · rw [List.length_map, List.length_map, zs_len, zs_len]
      exact Nat.le_trans fl (by decide)
    refine ⟨g, fs ++ ds, _, rfl, (((s1.trans s2).trans s3).trans s4).trans (same_new ng), ?_, fun q => ?_, ?_⟩
    · rw [upd_same, zs_append, List.map_append]
    · rw [List.mem_append, hin, pd.mem, take_next hr1]
      constructor
      · rintro (⟨z, h1, h2⟩ | h1)
        · exact ⟨z, List.mem_append_left _ h1, h2⟩
        · exact ⟨r, List.mem_append_right _ (List.mem_singleton.mpr rfl), h1⟩
      · rintro ⟨z, h1, h2⟩
        rcases List.mem_append.mp h1 with h1 | h1
        · exact .inl ⟨z, h1, h2⟩
        · rw [List.mem_singleton.mp h1] at h2
          exact .inr h2
    · rw [List.length_append, Nat.succ_mul]
      omega
  rintro σ H1 ⟨f, fs, y1, rfl, s1, hf, hin, hle⟩
  rw [hrs.1] at hin hle
  rw [List.take_length] at hin
  have fl : fs.length ≤ 60 := by omega
  -- the base
  refine ⟨_, rfl, f, zs fs, rfl, .of hf, by rw [zs_len]; omega, fun S2 c2 nS2 hc2 => ?_⟩
  rw [zs_len] at hc2
  refine ⟨S2, _, c2, rfl, upd_same, by omega, fun R pR ascR memR lenR nR => ⟨pR, _, rfl, .inl ⟨.of upd_same, fun t nt => ?_⟩⟩⟩
  have eR : R = zs (R.map Int.toNat) := zs_of fun z hz => by
    have := (memR z).mp hz
    rw [decide_eq_true_iff] at this
    unfold zs at this
    rw [List.mem_map] at this
    obtain ⟨x, _, e⟩ := this
    omega
  have memR2 : ∀ q, q ∈ R.map Int.toNat ↔ q ∈ fs := fun q => by
    rw [← zs_mem, ← eR, memR, decide_eq_true_iff, zs_mem]
  have sE : Same H1 (upd _ t (.tup (R.map V.int))) := same_add (same_add (same_new nS2) nR) nt
  generalize eH2 : upd _ t (.tup (R.map V.int)) = H2 at sE
  have ht : H2 t = some (.tup (R.map V.int)) := by rw [← eH2]; exact upd_same
  have lR : (R.map Int.toNat).length ≤ 60 := by rw [List.length_map]; omega
  have ascR2 : (R.map Int.toNat).Pairwise (· < ·) := zs_asc (by rw [← eR]; exact ascR)
  rw [eR] at ht
  generalize R.map Int.toNat = ps at ht memR2 lR ascR2
  have pds : PDs rs ps := ⟨ascR2, fun q => by rw [memR2, hin]⟩
  have pok := pds.ok ok lR
  have S2' : Same H H2 := (s0.trans s1).trans sE
  -- told
  refine ⟨_, rfl, l, size, rs, rfl, hL.same S2', ok, fun ps1 p1 c1 H3 pd1 l1 s3 hp1 hc1 => ?_⟩
  obtain rfl := pd1.ext pds
  refine ⟨_, rfl, rfl, l, size, rs, rfl, (hL.same S2').same s3, ok, fun ps2 p2 c2 H4 pd2 l2 s4 hp2 hc2 => ?_⟩
  obtain rfl := pd2.ext pd1
  refine ⟨by show 2 ≤ sizeLine; decide, fun td ntd => ?_⟩
  generalize eH5 : upd H4 td (.lst [.ref c1, .ref c2]) = H5
  have s5 : Same H4 H5 := by rw [← eH5]; exact same_new ntd
  have htd : H5 td = some (.lst [.ref c1, .ref c2]) := by rw [← eH5]; exact upd_same
  have s25 : Same H2 H5 := (s3.trans s4).trans s5
  have S5 : Same H H5 := S2'.trans s25
  -- the same as the due
  refine ⟨_, rfl, _, rfl, l, _, 0, _, rfl, rfl, same_t S5 hl, atI_nat (j := 0) rfl, _, rfl, by show 2 ≤ sizeLine; decide, fun du ndu => ⟨by show 1 ≤ sizeLine; decide, fun q nq => ?_⟩⟩
  generalize eH6 : upd (upd H5 du (.tup [.int size, .ref t])) q (.lst [.ref du]) = H6
  have s6 : Same H5 H6 := by rw [← eH6]; exact same_add (same_new ndu) nq
  have hdu : SqT K H6 du [.int size, .ref t] := by rw [← eH6]; exact .of (by rw [upd_ne (ne_of_none upd_same nq)]; exact upd_same)
  have hq6 : H6 q = some (.lst [.ref du]) := by rw [← eH6]; exact upd_same
  refine ⟨q, 2, _, rfl, rfl, hq6, by decide, by decide, by show 1 * 2 ≤ sizeLine; decide, fun r nr => ?_⟩
  generalize eH7 : upd H6 r _ = H7
  have s7 : Same H6 H7 := by rw [← eH7]; exact same_new nr
  have hr7 : H7 r = some (.lst [.ref du, .ref du]) := by rw [← eH7]; exact upd_same
  have s67 := s6.trans s7
  have dc1 : Dp K H7 (.ref c1) (clsD size ps2) := cls_dp (.of (s67 _ _ (s5 _ _ (s4 _ _ hc1)))) (.of (s67 _ _ (s5 _ _ (s4 _ _ hp1))))
  have dc2 : Dp K H7 (.ref c2) (clsD size ps2) := cls_dp (.of (s67 _ _ (s5 _ _ hc2))) (.of (s67 _ _ (s5 _ _ hp2)))
  have ddu : Dp K H7 (.ref du) (clsD size ps2) := cls_dp (same_t s7 hdu) (.of (s67 _ _ (s25 _ _ ht)))
  have cok : DOk (.list [clsD size ps2, clsD size ps2]) := cls_ok (by omega) (fun p hp => (pok.pr p hp).2) lR
  refine ⟨td, r, .list [clsD size ps2, clsD size ps2], rfl, .lst (.of (s67 _ _ htd)) (.cons dc1 (.cons dc2 .nil)), .lst (.of hr7) (.cons ddu (.cons ddu .nil)), cok, true, rfl, iteF ?_⟩
  have S7 : Same H H7 := S5.trans s67
  refine ⟨_, rfl, td, _, 0, .ref c1, rfl, rfl, .of (s67 _ _ htd), atI_nat (j := 0) rfl, c1, size, p1, ps2, rfl, .of (s67 _ _ (s5 _ _ (s4 _ _ hc1))), lo, hi5, .of (s67 _ _ (s5 _ _ (s4 _ _ hp1))), pok, fun H8 s8 => ?_⟩
  refine ⟨true, true, rfl, rfl, _, rfl, ifF (by decide) ?_⟩
  have S8 : Same H H8 := S7.trans s8
  refine ⟨_, rfl, l, _, rfl, lot_dp (hL.same S8), dok, _, rfl, rfl, _, rfl, ifF (by rw [eW, decide_eq_true rfl] <;> rfl) ?_⟩
  have ht8 : SqT K H8 t ((zs ps2).map V.int) := .of (s8 _ _ (s67 _ _ (s25 _ _ ht)))
  have ha8 := same_t S8 ha
  have hl8 := same_t S8 hl
  -- all rays within
  refine ⟨_, rfl, l, _, 1, _, rfl, rfl, hl8, atI_nat (j := 1) rfl, a, rfl, ⟨_, ha8⟩, fun D hD => ?_⟩
  refine lc_tup (K := K) (a := a) (xs := vs) (LcP H8 D fun _ => []) (LcP.start hD rfl) (fun i H9 _ p => same_t p.1 ha8) ?_ ?_
  · intro i v H9 hi p
    obtain ⟨ray, b, hr1, rfl, hr2⟩ := hrs.2 i v hi
    have hrm := ok.ray ray (List.mem_of_getElem? hr1)
    refine ⟨rfl, _, rfl, l, _, 0, _, rfl, rfl, same_t p.1 hl8, atI_nat (j := 0) rfl, _, rfl, _, rfl, t, b, ps2, ray, congrArg (fun z => [V.int z, V.ref t, V.ref b]) hrm.1.symm, by omega, by omega, same_t p.1 ht8, pok, same_t (S8.trans p.1) hr2, hrm.2.ok, hrm.2.fits, hrm.2.pos, fun H10 s10 => ?_⟩
    rw [within_true (fun q hq => (pok.pr q hq).1) hrm.2.pos (fun q hq hd => (pds.mem q).mpr ⟨ray, List.mem_of_getElem? hr1, hq, hd⟩)]
    refine ⟨true, true, rfl, rfl, _, rfl, ifF (by decide) ?_⟩
    exact p.no s10 rfl
  intro H9 p9
  refine ⟨Nat.zero_le _, fun e ne => ?_⟩
  refine ⟨D, e, [], rfl, rfl, .of (by rw [upd_ne (ne_of_none p9.2 ne)]; exact p9.2), lst_at, fun v hv => absurd hv (by simp), _, rfl, ifF rfl ?_⟩
  have s10 : Same H8 (upd H9 e (.lst [])) := same_add p9.1 ne
  generalize upd H9 e (.lst []) = H10 at s10
  have S10 := S8.trans s10
  have ht10 := same_t s10 ht8
  -- with a prime fewer
  refine ⟨_, rfl, t, rfl, ⟨_, ht10⟩, for_tup (K := K) (a := t) (xs := (zs ps2).map V.int) (fun i σ H' => ∃ y4 y8 : Option V, σ = [some (.ref l), y1, some (.ref t), some (.ref td), y4, none, some (.ref f), some (.str was), y8, none] ∧ Same H10 H') ⟨none, none, rfl, Same.refl _⟩ (fun i σ H' _ z => ?_) ?_ ?_⟩
  · obtain ⟨_, _, _, s⟩ := z
    exact same_t s ht10
  · rintro i v σ H11 hi ⟨y4, y8, rfl, s11⟩
    obtain ⟨p, hp1, rfl⟩ := get_zs hi
    have hpm := List.mem_of_getElem? hp1
    have ht11 := same_t s11 ht10
    have S11 := S10.trans s11
    refine ⟨_, rfl, t, rfl, ⟨_, ht11⟩, fun D2 hD2 => ?_⟩
    refine lc_tup (K := K) (a := t) (xs := (zs ps2).map V.int) (LcP H11 D2 fun j => ((zs ((ps2.take j).filter fun q => q != p)).map V.int)) (LcP.start hD2 rfl) (fun j H12 _ p => same_t p.1 ht11) ?_ ?_
    · intro j x H12 hj pc
      obtain ⟨q, hq1, rfl⟩ := get_zs hj
      refine ⟨rfl, _, rfl, _, rfl, rfl, _, rfl, ?_⟩
      have lj : ((zs ((ps2.take j).filter fun q => q != p)).map V.int).length < 1000000 := by
        rw [List.length_map, zs_len]
        have := List.length_filter_le (fun q => q != p) (ps2.take j)
        have : (ps2.take j).length ≤ ps2.length := by rw [List.length_take]; omega
        omega
      by_cases hqp : q = p
      · refine ifF (neI0 (by rw [hqp])) (pc.no (Same.refl _) ?_)
        show (zs ((ps2.take (j + 1)).filter fun q => q != p)).map V.int = _
        rw [take_next hq1, List.filter_append, hqp]
        simp
      · refine ifT (neI (by omega)) ⟨_, rfl, pc.yes hD2 (Same.refl _) ?_ lj⟩
        show (zs ((ps2.take (j + 1)).filter fun q => q != p)).map V.int = _
        rw [take_next hq1, List.filter_append, zs_append, List.map_append]
        simp [hqp, zs]
    intro H12 pc
    have e12 : H12 D2 = some (.lst ((zs (ps2.filter fun q => q != p)).map V.int)) := pc.at_ (by
      show (zs ((ps2.take ((zs ps2).map V.int).length).filter fun q => q != p)).map V.int = _
      rw [List.length_map, zs_len, List.take_length])
    refine ⟨D2, _, rfl, .inl ⟨.of e12, fun fw nfw => ?_⟩⟩
    have s13 := same_new (o := .tup ((zs (ps2.filter fun q => q != p)).map V.int)) nfw
    generalize eH13 : upd H12 fw (.tup ((zs (ps2.filter fun q => q != p)).map V.int)) = H13 at s13
    have hfw : H13 fw = some (.tup ((zs (ps2.filter fun q => q != p)).map V.int)) := by rw [← eH13]; exact upd_same
    have S13 : Same H H13 := (S11.trans pc.1).trans s13
    have fok := pok.fil fun q => q != p
    have hl13 := same_t S13 hl
    have ha13 := same_t S13 ha
    refine ⟨_, rfl, l, _, 1, _, rfl, rfl, hl13, atI_nat (j := 1) rfl, a, rfl, ⟨_, ha13⟩, fun D3 hD3 => ?_⟩
    refine lc_tup (K := K) (a := a) (xs := vs) (LcE H13 D3 fun j ys H' => (∀ v ∈ ys, ElemI K H' v) ∧ ys.length ≤ j ∧ ((∃ k r, k < j ∧ rs[k]? = some r ∧ p ∣ lenN r) → ys ≠ [])) (LcE.start hD3 fun H' _ => ⟨fun v hv => absurd hv (by simp), Nat.le_refl 0, fun ⟨k, r, hk, _⟩ => absurd hk (by omega)⟩) (fun j H14 _ p => same_t p.1 ha13) ?_ ?_
    · rintro j v H14 hj ⟨s14, ys, ey, el, ly, ny⟩
      obtain ⟨ray, b, hr1, rfl, hr2⟩ := hrs.2 j v hj
      have hrm := ok.ray ray (List.mem_of_getElem? hr1)
      have jl : j < rs.length := (List.getElem?_eq_some_iff.mp hr1).1
      have hr14 := same_t (S13.trans s14) hr2
      refine ⟨rfl, _, rfl, l, _, 0, _, rfl, rfl, same_t s14 hl13, atI_nat (j := 0) rfl, _, rfl, _, rfl, fw, b, _, ray, congrArg (fun z => [V.int z, V.ref fw, V.ref b]) hrm.1.symm, by omega, by omega, .of (s14 _ _ hfw), fok, hr14, hrm.2.ok, hrm.2.fits, hrm.2.pos, fun H15 s15 => ⟨_, rfl, ?_⟩⟩
      cases ek : within (ps2.filter fun q => q != p) (lenN ray) with
      | true =>
        refine iteF ⟨s14.trans s15, ys, s15 _ _ ey, ?_, by omega, ?_⟩
        · intro v hv
          rcases el v hv with h | ⟨x, ns, h1, h2⟩
          · exact .inl h
          · exact .inr ⟨x, ns, h1, same_t s15 h2⟩
        · rintro ⟨k, r, hk, hk1, hd⟩
          by_cases hkj : k = j
          · rw [hkj, hr1] at hk1
            obtain rfl := Option.some.inj hk1
            have f := within_false (fun q hq => (fok.pr q hq).1) hrm.2.pos (pok.pr p hpm).1 hd (fun z => by simpa using (List.mem_filter.mp z).2)
            rw [ek] at f
            cases f
          · exact ny ⟨k, r, by omega, hk1, hd⟩
      | false =>
        refine iteT ⟨_, rfl, ?_⟩
        refine LcE.yes s14 ey hD3 s15 (by omega) ⟨?_, by rw [List.length_append]; exact Nat.succ_le_succ ly, fun _ z => by simp at z⟩
        intro v hv
        rcases List.mem_append.mp hv with hv | hv
        · rcases el v hv with h | ⟨x, ns, h1, h2⟩
          · exact .inl h
          · exact .inr ⟨x, ns, h1, t_put (s15 _ _ ey) (same_t s15 h2)⟩
        · exact .inr ⟨b, ray, List.mem_singleton.mp hv, t_put (s15 _ _ ey) (same_t s15 hr14)⟩
    rintro H14 ⟨s14, ys, ey, el, ly, ny⟩
    have S14 := S13.trans s14
    have nonempty : ys ≠ [] := by
      obtain ⟨r, hr, _, hd⟩ := (pds.mem p).mp hpm
      obtain ⟨k, hk⟩ := List.getElem?_of_mem hr
      refine ny ⟨k, r, ?_, hk, hd⟩
      have := (List.getElem?_eq_some_iff.mp hk).1
      rw [hrs.1]
      exact this
    refine ⟨Nat.zero_le _, fun e2 ne2 => ?_⟩
    have s15 := same_new (o := .lst []) ne2
    refine ⟨D3, e2, ys, rfl, rfl, .of (s15 _ _ ey), lst_at, ?_, _, rfl, ifF ?_ ?_⟩
    · intro v hv
      rcases el v hv with h | ⟨x, ns, h1, h2⟩
      · exact .inl h
      · exact .inr ⟨x, ns, h1, same_t s15 h2⟩
    · cases ys with
      | nil => exact absurd rfl nonempty
      | cons y ys => rfl
    · exact ⟨_, _, rfl, (((s11.trans pc.1).trans s13).trans s14).trans s15⟩
  · rintro σ H11 ⟨y4, y8, rfl, s11⟩
    have S11 := S10.trans s11
    exact hq H11 (LamX.ExtN.of S11) (hT.ext S11)

end
end RM
namespace RM
open PySem PySem.Spec PyProof.Rows L2
/-- what a lot must keep -/
def LotSpec (size : Int) (rs : List (List Int)) : Prop := size = 2 ∨ (LotOk size rs ∧ ∀ r ∈ rs, ∀ n ∈ r, n.natAbs < 2 ^ 20)
def LotG (K : PySem.W.Frag) (v : V) (H : Hp) : Prop := ∃ l size rs, v = V.ref l ∧ LotAt K H l size rs ∧ LotSpec size rs
theorem lot_map {K : PySem.W.Frag} {H H' : Hp} {l : Addr} {size : Int} {rs : List (List Int)} (f : ∀ {a : Addr} {xs : List V}, SqT K H a xs → SqT K H' a xs) (h : LotAt K H l size rs) : LotAt K H' l size rs := by
  obtain ⟨a, vs, h1, h2, h3⟩ := h
  exact ⟨a, vs, f h1, f h2, h3.1, fun i v hv => by
    obtain ⟨r, b, e1, e2, e3⟩ := h3.2 i v hv
    exact ⟨r, b, e1, e2, f e3⟩⟩
theorem LotG.map {K : PySem.W.Frag} {H H' : Hp} {v : V} (f : ∀ {a : Addr} {xs : List V}, SqT K H a xs → SqT K H' a xs) (h : LotG K v H) : LotG K v H' := by
  obtain ⟨l, size, rs, e, h1, h2⟩ := h
  exact ⟨l, size, rs, e, lot_map f h1, h2⟩
theorem few3 : factFrom (3 + 1) 2 = 120 := by decide
theorem few6 : factFrom (6 + 1) 2 = 40320 := by decide
theorem lot_of {k B w : Nat} {rs : List (List Int)} (h3 : 3 ≤ w) (h5 : w ≤ 5) (hB : 5 * (B * B) < factFrom (k + 1) 2) (hB6 : 5 * (B * B) < 1000000) (hB2 : B < 2 ^ 20) (hl : rs.length * k ≤ 60) (hn : rs.length ≤ 60) (h : ∀ r ∈ rs, r.length = w ∧ Bnd B r ∧ RayOk r) : LotSpec w rs := by
  have len : ∀ r ∈ rs, lenN r ≤ 5 * (B * B) := fun r hr => by
    obtain ⟨h1, h2, _⟩ := h r hr
    exact Nat.le_trans (lenN_le h2) (Nat.mul_le_mul_right _ (by omega))
  have pos : ∀ r ∈ rs, 1 ≤ lenN r := fun r hr => lenN_pos (h r hr).2.2
  refine .inr ⟨⟨by omega, by omega, fun r hr => ⟨by rw [(h r hr).1], (h r hr).2.2, Fits.of_bnd (h r hr).2.1 (Nat.lt_trans hB2 (by decide)), pos r hr, Nat.lt_of_le_of_lt (len r hr) hB6⟩, k, fun r hr => pd_few (primeDivs_pd (pos r hr)) (pos r hr) (Nat.lt_of_le_of_lt (len r hr) hB), hl, hn⟩, fun r hr n hm => Nat.lt_of_le_of_lt ((h r hr).2.1 n hm) hB2⟩
theorem lot_heap {w : Nat} {rs : List (List Int)} (h2 : 2 ≤ w) (h5 : w ≤ 5) (hl : rs.length ≤ 18) (h : ∀ r ∈ rs, Ray w r) : LotSpec w rs := by
  rcases Nat.lt_or_ge 2 w with z | z
  · exact lot_of (k := 3) (B := 3) z h5 (by rw [few3]; decide) (by decide) (by decide) (by omega) (by omega) h
  · exact .inl (by omega)
def lastL : List (List Int) := [[0, 7, 50], [1, 2, 3], [49, 50, 50]]
theorem ray_by {ns : List Int} (h : (match ns.filter fun n => n != 0 with | z :: _ => decide (0 < z) | [] => false) = true) (g : gcdAll ns = 1) : RayOk ns := by
  refine ⟨?_, g⟩
  cases e : ns.filter fun n => n != 0 with
  | nil =>
    rw [e] at h
    cases h
  | cons z r =>
    rw [e] at h
    exact ⟨z, r, rfl, of_decide_eq_true h⟩
theorem last_ok : LotSpec (3 : Nat) lastL := by
  refine lot_of (k := 6) (B := 50) (w := 3) (by decide) (by decide) (by rw [few6]; decide) (by decide) (by decide) (by decide) (by decide) fun r hr => ?_
  simp only [lastL, List.mem_cons, List.not_mem_nil, or_false] at hr
  rcases hr with e | e | e <;> subst e <;> exact ⟨rfl, by unfold Bnd; decide, ray_by (by decide) (by decide)⟩
theorem nine_ok : LotSpec (3 : Nat) nineL := by
  refine lot_of (k := 3) (B := 1) (w := 3) (by decide) (by decide) (by rw [few3]; decide) (by decide) (by decide) (by decide) (by decide) fun r hr => ?_
  simp only [nineL, List.mem_cons, List.not_mem_nil, or_false] at hr
  rcases hr with e | e | e | e | e | e | e | e | e <;> subst e <;> exact ⟨rfl, by unfold Bnd; decide, ray_by (by decide) (by decide)⟩
theorem eighteen_ok : LotSpec (4 : Nat) ((eightA ++ eightB) ++ eightC) := by
  refine lot_of (k := 3) (B := 1) (w := 4) (by decide) (by decide) (by rw [few3]; decide) (by decide) (by decide) (by decide) (by decide) fun r hr => ?_
  simp only [eightA, eightB, eightC, List.cons_append, List.nil_append, List.mem_cons, List.not_mem_nil, or_false] at hr
  rcases hr with e | e | e | e | e | e | e | e | e | e | e | e | e | e | e | e | e | e <;> subst e <;> exact ⟨rfl, by unfold Bnd; decide, ray_by (by decide) (by decide)⟩
theorem empty_ok {w : Nat} (h3 : 3 ≤ w) (h5 : w ≤ 5) : LotSpec w [] := lot_of (k := 3) (B := 1) h3 h5 (by rw [few3]; decide) (by decide) (by decide) (by decide) (by decide) fun r hr => absurd hr (by simp)
/-! ### a display of lots -/
def DisV (K : PySem.W.Frag) (t : TE) : Prop := ∀ σ H Q, (∀ v H', Same H H' → LotG K v H' → Q v H') → t σ H Q
def DisL (K : PySem.W.Frag) (t : TA) (n : Nat) : Prop := ∀ σ H Q, (∀ vs H', Same H H' → (∀ v ∈ vs, LotG K v H') → vs.length = n → Q vs H') → t σ H Q
theorem DisL.nil {K : PySem.W.Frag} : DisL K tNil 0 := fun _ H _ q => q [] H (Same.refl H) (fun v hv => absurd hv (by simp)) rfl
theorem DisL.cons {K : PySem.W.Frag} {te : TE} {t : TA} {n : Nat} (h1 : DisV K te) (h : DisL K t n) : DisL K (tCons te t) (n + 1) := fun σ H Q q =>
  h1 σ H _ fun v H1 s1 g1 => h σ H1 _ fun vs H2 s2 g2 l => q (v :: vs) H2 (s1.trans s2) (fun u hu => (List.mem_cons.mp hu).elim (fun e => by rw [e]; exact g1.map (same_t s2)) (g2 u)) (congrArg Nat.succ l)
theorem DisV.lot {K : PySem.W.Frag} {t : TA} {rs : List (List Int)} {i : Int} (h : DisT K t rs) (hn : rs.length ≤ 1000) (ok : LotSpec i rs) : DisV K (tTup (tCons (tC (.int i)) (tCons (tTup t) tNil))) := fun σ H Q q =>
  h σ H _ fun vs H1 s1 hr => ⟨by rw [hr.1, sizeLine_eq]; omega, fun p np => ⟨by show 2 ≤ sizeLine; decide, fun l nl => q (.ref l) _ (same_add (same_add s1 np) nl) ⟨l, i, rs, rfl, ⟨p, vs, .of upd_same, .of (by rw [upd_ne (ne_of_none upd_same nl)]; exact upd_same), hr.same (same_add (same_new np) nl)⟩, ok⟩⟩⟩
theorem DisV.nine {K : PySem.W.Frag} : DisV K (tCall (spNine K) [] E0 tNil) := fun σ H Q q => ⟨rfl, fun l H' s lot => q _ H' s ⟨l, 3, _, rfl, lot, nine_ok⟩⟩
theorem DisV.eighteen {K : PySem.W.Frag} : DisV K (tCall (spEighteen K) [] E0 tNil) := fun σ H Q q => ⟨rfl, fun l H' s lot => q _ H' s ⟨l, 4, _, rfl, lot, eighteen_ok⟩⟩
theorem DisL.lst {K : PySem.W.Frag} {t : TA} {n : Nat} {σ : L2.St} {H : Hp} {Q : VK} (h : DisL K t n) (hn : n ≤ 1000) (q : ∀ l us H', Same H H' → H' l = some (.lst us) → (∀ v ∈ us, LotG K v H') → us.length = n → Q (.ref l) H') : tLst t σ H Q :=
  h σ H _ fun vs H1 s1 g l => ⟨by rw [l, sizeLine_eq]; omega, fun p np => q p vs _ (same_add s1 np) upd_same (fun v hv => (g v hv).map (same_t (same_new np))) l⟩
theorem Tabs.exd {T : List (Addr × Str)} {H H' : Hp} (t : LamX.Tabs T H) (x : ExD H H') : LamX.Tabs T H' := fun p hp => by
  obtain ⟨ps, h1, h2, h3⟩ := t p hp
  refine ⟨ps, x _ _ h1 (fun _ z => by cases z), h2, fun pos cv e => ?_⟩
  obtain ⟨c, e1, e2⟩ := h3 pos cv e
  exact ⟨c, e1, x _ _ e2 (fun _ z => nomatch z)⟩
def spLaw (K : PySem.W.Frag) (tP : Addr) : Sp := fun vs H Q _ => ∃ (a : Addr) (ns : List Int), vs = [.ref a] ∧ SqL K H a (ns.map V.int) ∧ LamX.Tabs [(tP, qL)] H ∧ ∀ H', Q (.bl true) H'
section
variable {P : Program} {w : World} {K : PySem.W.Frag} {mg : Str → Option Value} {base : Heap} {tP : Addr}
theorem cal_law (T : Txt mg) (D : Def K mg "law" s_law) (c_law_spring : Cal CX0 P w K mg base "_law_spring" ["_law_script"] 2 (spSpring K)) (c_law_drawn : Cal CX0 P w K mg base "_law_drawn" ["_law_spring_here", "_law_wide"] 8 (spDrawn K)) (c_law_heap : Cal CX0 P w K mg base "_law_heap" ["_law_spring_here", "_law_many"] 12 (spHeap K)) (c_law_nine : Cal CX0 P w K mg base "_law_nine" [] 2 (spNine K)) (c_law_eighteen : Cal CX0 P w K mg base "_law_eighteen" [] 2 (spEighteen K)) (c_law_is_lot_right : CalG CX0 P w K mg base "_law_is_lot_right" ["_law_heap_here"] 18 (spLotRight K tP)) (c_law_is_ray_right : CalG CX0 P w K mg base "_law_is_ray_right" ["_law_spring_here", "_law_wide", "_law_beam"] 16 (spRayRight K)) : CalG CX0 P w K mg base "law" ["_law_script"] 20 (spLaw K tP) := by
  obtain ⟨f_law_spring, fd_law_spring, m_law_spring, k_law_spring, b_law_spring, G_law_spring⟩ := c_law_spring
  obtain ⟨f_law_drawn, fd_law_drawn, m_law_drawn, k_law_drawn, b_law_drawn, G_law_drawn⟩ := c_law_drawn
  obtain ⟨f_law_heap, fd_law_heap, m_law_heap, k_law_heap, b_law_heap, G_law_heap⟩ := c_law_heap
  obtain ⟨f_law_nine, fd_law_nine, m_law_nine, k_law_nine, b_law_nine, G_law_nine⟩ := c_law_nine
  obtain ⟨f_law_eighteen, fd_law_eighteen, m_law_eighteen, k_law_eighteen, b_law_eighteen, G_law_eighteen⟩ := c_law_eighteen
  obtain ⟨f_law_is_ray_right, fd_law_is_ray_right, m_law_is_ray_right, k_law_is_ray_right, b_law_is_ray_right, G_law_is_ray_right⟩ := c_law_is_ray_right
  obtain ⟨f_law_is_lot_right, fd_law_is_lot_right, m_law_is_lot_right, k_law_is_lot_right, b_law_is_lot_right, G_law_is_lot_right⟩ := c_law_is_lot_right
  refine CalG.make D sc_law (fun _ _ _ _ _ _ us hl => match us, hl with | [_], _ => rfl) (fun vs H Q E h => ?_) (fun f cdv A outer s H vs Q E hg hr h => ?_)
  · obtain ⟨a, ns, rfl, _⟩ := h
    rfl
  refine ⟨_, PSs.nox (pss_cons (ps_set (i := 1) sc_law.nd rfl (Or.inr rfl) (pe_call G_law_spring (hr.mono (by decide)) rfl m_law_spring k_law_spring b_law_spring .nil pass0 (pa_cons (pv 0) pa_nil)))
    (pss_cons (ps_for PassesOwn.never rfl (pi_list (pe_lst (pa_cons pe_int (pa_cons pe_int (pa_cons pe_int pa_nil))))) (pg_name (i := 2) sc_law.nd rfl (Or.inl rfl))
      (pss_one (ps_for PassesOwn.never rfl (pi_range1 (by rfl) T.range (pa_cons pe_int pa_nil)) (pg_name (i := 4) sc_law.nd rfl (Or.inl rfl))
      (pss_one (ps_if (pt_not (pt_val (pe_callG hg G_law_is_ray_right (hr.mono (by decide)) rfl m_law_is_ray_right k_law_is_ray_right b_law_is_ray_right pass0 (pa_cons (pv 1) (pa_cons (pv 2) (pa_cons (pe_call G_law_drawn (hr.mono (by decide)) rfl m_law_drawn k_law_drawn b_law_drawn .nil pass0 (pa_cons (pv 1) (pa_cons (pv 2) pa_nil))) pa_nil)))))) (pss_one (ps_ret pe_bl)) pss_nil)))))
    (pss_cons (ps_setLc (i := 3) (own := [("_law_lap", 4)]) (g := (gName 4)) (by rfl) sc_law.nd rfl rfl (sw_true rfl rfl rfl (by decide +kernel)) (pi_range1 (by rfl) T.range (pa_cons pe_int pa_nil)) (blkOk_by (N := n_law) (sc := defScope s_law) (by decide +kernel)) (fun _ _ _ _ _ => (pg_name (i := 4) sc_law.nd rfl (Or.inl rfl))) (fun _ _ _ _ _ => pts_nil) (fun _ _ _ _ _ => (pe_call G_law_heap (hr.mono (by decide)) rfl m_law_heap k_law_heap b_law_heap .nil pass0 (pa_cons (pv 1) (pa_cons pe_int pa_nil)))))
    (pss_cons (ps_set (i := 3) sc_law.nd rfl (Or.inl rfl) (pe_op op_cat (pv 3) (pe_lst (pa_cons (pe_tup (pa_cons pe_int (pa_cons (pe_tup pa_nil) pa_nil))) (pa_cons (pe_tup (pa_cons pe_int (pa_cons (pe_tup pa_nil) pa_nil))) (pa_cons (pe_tup (pa_cons pe_int (pa_cons (pe_tup pa_nil) pa_nil))) (pa_cons (pe_tup (pa_cons pe_int (pa_cons (pe_tup pa_nil) pa_nil))) (pa_cons (pe_tup (pa_cons pe_int (pa_cons (pe_tup (pa_cons (pe_tup (pa_cons pe_int (pa_cons pe_int pa_nil))) pa_nil)) pa_nil))) (pa_cons (pe_tup (pa_cons pe_int (pa_cons (pe_tup (pa_cons (pe_tup (pa_cons pe_int (pa_cons pe_int (pa_cons pe_int pa_nil)))) (pa_cons (pe_tup (pa_cons pe_int (pa_cons pe_int (pa_cons pe_int pa_nil)))) (pa_cons (pe_tup (pa_cons pe_int (pa_cons pe_int (pa_cons pe_int pa_nil)))) pa_nil)))) pa_nil))) (pa_cons (pe_call0 G_law_nine (hr.mono (by decide)) rfl m_law_nine k_law_nine b_law_nine .nil pass0) (pa_cons (pe_call0 G_law_eighteen (hr.mono (by decide)) rfl m_law_eighteen k_law_eighteen b_law_eighteen .nil pass0) pa_nil)))))))))))
    (pss_one (ps_ret (pe_cmpR (op_eqE hr.units) (pe_lc (own := [("_law_heap_here", 5)]) (g := (gName 5)) rfl sc_law.nd (pi_list (pv 3)) (blkOk_by (N := n_law) (sc := defScope s_law) (by decide +kernel)) (fun _ _ _ _ _ => (pg_name (i := 5) sc_law.nd rfl (Or.inl rfl))) (fun _ _ _ _ _ => (pts_one (pt_not (pt_val (pe_callG hg G_law_is_lot_right (hr.mono (by decide)) rfl m_law_is_lot_right k_law_is_lot_right b_law_is_lot_right pass0 (pa_cons (pv 5) pa_nil)))))) (fun _ _ _ _ _ => (pv 5))) (pe_lst pa_nil) (nomark _)))))))), ?_⟩
  obtain ⟨a, ns, rfl, hA, hT, hq⟩ := h
  refine ⟨_, rfl, a, ns, rfl, hA, fun c d H1 s1 S1 => ?_⟩
  have T1 := hT.ext s1
  refine ⟨by show 3 ≤ sizeLine; decide, fun p np => ?_⟩
  generalize e2 : upd H1 p (.lst [.int 3, .int 4, .int 5]) = H2
  have s2 : Same H1 H2 := by rw [← e2]; exact same_new np
  have hp2 : H2 p = some (.lst [.int 3, .int 4, .int 5]) := by rw [← e2]; exact upd_same
  have S2 := S1.same s2
  have T2 := T1.ext s2
  refine ⟨p, rfl, ⟨_, .of hp2⟩, for_list (K := K) (a := p) (xs := [.int 3, .int 4, .int 5]) (fun i σ H' => ∃ y2 y4 : Option V, σ = [some (.ref a), some (.ref d), y2, none, y4, none] ∧ ExD H2 H' ∧ SprAt H' c d) ⟨none, none, rfl, ExD.refl _, S2⟩ (fun i σ H' _ z => ?_) ?_ ?_⟩
  · obtain ⟨_, _, _, x, _⟩ := z
    exact .of (x.lst hp2)
  · rintro i v σ H3 hi ⟨y2, y4, rfl, x3, S3⟩
    obtain ⟨wd, rfl, w3, w5⟩ : ∃ wd : Nat, v = .int wd ∧ 3 ≤ wd ∧ wd ≤ 5 := by
      match i, hi with
      | 0, hi => exact ⟨3, (Option.some.inj hi).symm, by decide, by decide⟩
      | 1, hi => exact ⟨4, (Option.some.inj hi).symm, by decide, by decide⟩
      | 2, hi => exact ⟨5, (Option.some.inj hi).symm, by decide, by decide⟩
    refine ⟨3, rfl, by decide, by decide, for_range (lo := 0) (n := 3) (fun j σ' H' => ∃ y4 : Option V, σ' = [some (.ref a), some (.ref d), some (.int wd), none, y4, none] ∧ ExD H2 H' ∧ SprAt H' c d) ⟨y4, rfl, x3, S3⟩ ?_ ?_⟩
    · rintro j σ' H4 hj ⟨y4, rfl, x4, S4⟩
      refine ⟨_, rfl, _, rfl, _, rfl, _, rfl, c, d, wd, rfl, S4, w3, w5, fun q ms H5 S5 x5 sq len ray bnd => ?_⟩
      refine ⟨c, d, q, ms, by rw [len] <;> rfl, S5, sq, by omega, by omega, ray, bnd, fun H6 S6 x6 => ⟨true, rfl, iteF ?_⟩⟩
      exact ⟨_, rfl, (x4.trans x5).trans x6, S6⟩
    · rintro σ' H4 ⟨y4, rfl, x4, S4⟩
      exact ⟨_, _, rfl, x4, S4⟩
  rintro σ H3 ⟨y2, y4, rfl, x3, S3⟩
  have T3 := Tabs.exd T2 x3
  -- the heaps
  refine ⟨4, rfl, by decide, by decide, fun D hD => ?_⟩
  refine lc_range (lo := 0) (n := 4) (LcX H3 D c d fun i ys H' => (∀ v ∈ ys, LotG K v H') ∧ ys.length = i) (LcX.start hD S3 fun _ => ⟨fun v hv => absurd hv (by simp), rfl⟩) ?_ ?_
  · rintro i H4 hi ⟨x4, S4, ys, ey, ⟨gy, ly'⟩, ly⟩
    refine ⟨rfl, _, rfl, c, d, rfl, S4, fun l wd rs H5 S5 x5 w2 w5 lot lr hr => ?_⟩
    refine LcX.yes (x4.trans x5) S3 S5 hD (x5.lst ey) ly (by omega) ⟨fun v hv => ?_, by rw [List.length_append, ly'] <;> rfl⟩
    rcases List.mem_append.mp hv with hv | hv
    · exact ((gy v hv).map x5.t).map (t_put (x5.lst ey))
    · exact ⟨l, wd, rs, List.mem_singleton.mp hv, lot_map (t_put (x5.lst ey)) lot, lot_heap w2 w5 (by omega) hr⟩
  rintro H4 ⟨x4, S4, ys, ey, ⟨gy, ly'⟩, ly⟩
  have T4 := Tabs.exd T3 x4
  refine ⟨_, rfl, DisL.lst (K := K) (n := 8) ?_ (by decide) fun l us H5 s5 e5 g5 l5 => ?_⟩
  · refine DisL.cons (DisV.lot (rs := []) DisT.nil (by decide) (empty_ok (w := 3) (by decide) (by decide))) (DisL.cons (DisV.lot (rs := []) DisT.nil (by decide) (empty_ok (w := 4) (by decide) (by decide))) (DisL.cons (DisV.lot (rs := []) DisT.nil (by decide) (empty_ok (w := 5) (by decide) (by decide))) (DisL.cons (DisV.lot (rs := []) DisT.nil (by decide) (.inl rfl)) (DisL.cons (DisV.lot (rs := [[1, 2]]) ?_ (by decide) (.inl rfl)) (DisL.cons (DisV.lot (rs := lastL) ?_ (by decide) last_ok) (DisL.cons DisV.nine (DisL.cons DisV.eighteen DisL.nil)))))))
    · repeat (first | exact DisT.nil | (refine DisT.cons ?_ (by decide) ?_; (repeat (first | exact DisI.nil | apply DisI.neg | apply DisI.pos))))
    · repeat (first | exact DisT.nil | (refine DisT.cons ?_ (by decide) ?_; (repeat (first | exact DisI.nil | apply DisI.neg | apply DisI.pos))))
  refine ⟨D, l, ys, us, rfl, rfl, s5 _ _ ey, e5, by rw [ly', l5]; decide, fun m nm => ?_⟩
  generalize e6 : upd H5 m (.lst (ys ++ us)) = H6
  have s6 : Same H5 H6 := by rw [← e6]; exact same_new nm
  have hm6 : H6 m = some (.lst (ys ++ us)) := by rw [← e6]; exact upd_same
  have T6 := (T4.ext s5).ext s6
  have g6 : ∀ v ∈ ys ++ us, LotG K v H6 := fun v hv => by
    rcases List.mem_append.mp hv with hv | hv
    · exact (gy v hv).map fun z => same_t (s5.trans s6) z
    · exact (g5 v hv).map (same_t s6)
  -- each lot
  refine ⟨_, rfl, m, rfl, ⟨_, .of hm6⟩, fun D2 hD2 => ?_⟩
  refine lc_list (K := K) (a := m) (xs := ys ++ us) (fun _ H' => LamX.ExtN H6 H' ∧ LamX.Tabs [(tP, qL)] H' ∧ H' D2 = some (.lst [])) ⟨LamX.ExtN.of (same_new hD2), T6.ext (same_new hD2), upd_same⟩ (fun i H' _ z => .of (ExtN.l z.1 hm6)) ?_ ?_
  · rintro i v H7 hi ⟨x7, T7, h7⟩
    obtain ⟨l, size, rs, rfl, lot, spec⟩ := g6 v (List.mem_of_getElem? hi)
    refine ⟨rfl, _, rfl, l, size, rs, rfl, T7, lot_map (ExtN.t x7) lot, spec, fun H8 x8 T8 => ⟨true, rfl, iteF ?_⟩⟩
    exact ⟨x7.trans x8, T8, ExtN.l x8 h7⟩
  · rintro H7 ⟨x7, T7, h7⟩
    refine ⟨Nat.zero_le _, fun e ne => ?_⟩
    exact ⟨D2, e, [], rfl, rfl, .of (by rw [upd_ne (ne_of_none h7 ne)]; exact h7), lst_at, fun v hv => absurd hv (by simp), hq _⟩

end
end RM
namespace RM
open PySem PySem.Spec PyProof.Rows L2
/-! ### a law's end: one table of a code object, no guard -/
/-- what is tracked at the start: the table at T, the script's list at a unless it is of the written part -/
def endH (K : PySem.W.Frag) (a T : Addr) (o : Obj) (xs : List V) : Hp := fun b =>
  if b = T then some (.tbl #[]) else if b = a ∧ (K.lookup a).isNone = true then some (.frz o (.lst xs)) else none
theorem endH_T {K : PySem.W.Frag} {a T : Addr} {o : Obj} {xs : List V} : endH K a T o xs T = some (.tbl #[]) := if_pos rfl
theorem endH_cases {K : PySem.W.Frag} {a T b : Addr} {o : Obj} {xs : List V} :
    (b = T ∧ endH K a T o xs b = some (.tbl #[])) ∨ (b ≠ T ∧ b = a ∧ K.lookup a = none ∧ endH K a T o xs b = some (.frz o (.lst xs))) ∨ (b ≠ T ∧ endH K a T o xs b = none) := by
  by_cases h1 : b = T
  · exact .inl ⟨h1, if_pos h1⟩
  · by_cases h2 : b = a ∧ (K.lookup a).isNone = true
    · exact .inr (.inl ⟨h1, h2.1, Option.isNone_iff_eq_none.mp h2.2, (if_neg h1).trans (if_pos h2)⟩)
    · exact .inr (.inr ⟨h1, (if_neg h1).trans (if_neg h2)⟩)
theorem tbl_ne_seq {vs : Array Value} {n : Nat} : (Data.fields #[] : Data) ≠ .seq vs n := fun z => nomatch z
theorem law_end {P : Program} {w : World} {K : PySem.W.Frag} {mg mb : Str → Option Value} {k : Nat} {fa a c T : Addr} {nm x : Str} {sp : Sp} {s : Shared} {vs : List Value} {ns : List Int}
    (KX : K.In s.heap) (hns : s.heap.Ns mainGlobals mg) (hb : s.heap.Ns builtinsNs mb) (hbb : ∀ x : Str, x ≠ "__name__" → mb x = bootBuiltins x) (hlim : s.heap.NoLimit) (hg : s.gens = #[])
    (hT : s.heap.get? T = some { cls := .none, data := .fields #[] }) (nT : K.lookup T = none) (C : PySem.W.CodeHd s.heap c T)
    (hbm : ∃ (bm : Addr) (ob : Obj), mg "__builtins__" = some (.ref bm) ∧ bm ≠ builtinsNs ∧ s.heap.get? bm = some ob ∧ ob.cls = .type "module" ∧ ob.dict = some builtinsNs ∧ ob.data = .plain)
    (ha : s.heap.get? a = some { cls := .type "list", data := .seq vs.toArray }) (hi : IntsAre vs ns) (hl : ns.length ≤ sizeLine) (hr : Room k callerA)
    (hm : mg nm = some (.ref fa)) (F : ∀ base : Heap, K.In base → base.Ns mainGlobals mg → LamX.TabB base mg c T → CalG CX0 P w K mg base nm [x] k sp)
    (hsp : ∀ H : Hp, H T = some (.tbl #[]) → SqL K H a (ns.map V.int) → sp [.ref a] H (fun v _ => v = .bl true) fun _ _ _ => False) :
    codeAny (model P w) callerA (.call (.ref fa) ⟨[.ref a], []⟩) (fun r s' => r = .ok (.ret (.bool true)) ∧ OldK s.heap s'.heap ∧ s'.os = s.os ∧ AllBare s'.gens) s := by
  have hlen : (ns.map V.int).length ≤ sizeLine := by rw [List.length_map]; exact hl
  have hv := vals_ints hi
  have aT : a ≠ T := fun z => by
    rw [z, hT] at ha
    exact tbl_ne_seq (congrArg Obj.data (Option.some.inj ha))
  generalize eo : ({ cls := .type "list", data := .seq vs.toArray } : Obj) = o at ha
  have od : o.data = .seq vs.toArray := by rw [← eo]
  generalize eH : endH K a T o (ns.map V.int) = H
  have cs : ∀ b, (b = T ∧ H b = some (.tbl #[])) ∨ (b ≠ T ∧ b = a ∧ K.lookup a = none ∧ H b = some (.frz o (.lst (ns.map V.int)))) ∨ (b ≠ T ∧ H b = none) := fun b => by
    rw [← eH]
    exact endH_cases
  have HT : H T = some (.tbl #[]) := by
    rw [← eH]
    exact endH_T
  -- what stands for another kind of object is not tracked
  have free : ∀ {b : Addr} {ob : Obj}, s.heap.get? b = some ob → (∀ us n, ob.data ≠ .seq us n) → ob.data ≠ .fields #[] → H b = none := fun {b ob} e h1 h2 => by
    rcases cs b with ⟨z, _⟩ | ⟨_, z, _, _⟩ | ⟨_, z⟩
    · rw [z, hT] at e
      rw [← Option.some.inj e] at h2
      exact (h2 rfl).elim
    · rw [z, ha] at e
      rw [← Option.some.inj e] at h1
      exact (h1 _ _ od).elim
    · exact z
  have hS : SqL K H a (ns.map V.int) := by
    rcases cs a with ⟨z, _⟩ | ⟨_, _, _, z⟩ | ⟨_, z⟩
    · exact absurd z aT
    · exact .inl (.inr ⟨o, z⟩)
    · cases hk : K.lookup a with
      | none =>
        rw [← eH] at z
        have y : endH K a T o (ns.map V.int) a = some (.frz o (.lst (ns.map V.int))) := (if_neg aT).trans (if_pos ⟨rfl, by rw [hk]; rfl⟩)
        rw [y] at z
        cases z
      | some u =>
        have e := KX a u hk
        rw [ha] at e
        cases e
        subst eo
        exact .inr ⟨_, vs.toArray, _, hk, rfl, rfl, rfl, by rw [List.size_toArray, hi.length]; exact hl, by simpa using hv⟩
  have hok : HOk P w H s.heap := fun b u e => by
    rcases cs b with ⟨z, y⟩ | ⟨_, z, _, y⟩ | ⟨_, y⟩
    · rw [y] at e
      rw [← Option.some.inj e, z]
      exact hT
    · rw [y] at e
      rw [← Option.some.inj e, z]
      subst eo
      exact ⟨ha, hlen, vs, _, hv, ha⟩
    · rw [y] at e
      cases e
  have ks : ∀ {b : Addr} {m : Str → Option Value}, s.heap.Ns b m → (hidT s.heap H).Ns b m := fun {b m} ⟨q, es, ep, e, d, r⟩ =>
    ⟨q, es, ep, hidT_get e (free e (fun us n z => by rw [d] at z; cases z) fun z => by rw [d] at z; cases z), d, r⟩
  have kin : K.In (hidT s.heap H) := fun b ob e => hidT_get (KX b ob e) (by
    rcases cs b with ⟨z, _⟩ | ⟨_, z, y, _⟩ | ⟨_, z⟩
    · rw [z, nT] at e
      cases e
    · rw [z, y] at e
      cases e
    · exact z)
  have md : L2.Mod K mg (hidT s.heap H) := ⟨kin, ks hns, ⟨mb, ks hb, hbb⟩, let ⟨mc, h1, h2⟩ := hlim; ⟨mc, ks h1, h2⟩⟩
  have nG : mainGlobals ≠ T := fun z => by
    obtain ⟨q, es, ep, e, d, _⟩ := hns
    rw [z, hT] at e
    rw [← Option.some.inj e] at d
    cases d
  have TB : LamX.TabB (hidT s.heap H) mg c T := by
    refine ⟨?_, ?_, nG⟩
    · obtain ⟨q, us, file, tf, flags, tg, inF, text, tt, e1, r1, r2, r3, r4, r5, r6, r7, r8, hne⟩ := C
      refine ⟨q, us, file, tf, flags, tg, inF, text, tt, hidT_get e1 (free e1 (fun xs n z => by rw [r2] at z; cases z) fun z => ?_), r1, r2, r3, r4, r5, r6, r7, r8, hne⟩
      rw [r2] at z
      cases z
      simp at r3
    · obtain ⟨bm, ob, b1, b2, b3, b4, b5, b6⟩ := hbm
      refine ⟨bm, ob, b1, b2, fun z => ?_, fun z => ?_, hidT_get b3 (free b3 (fun xs n z => by rw [b6] at z; cases z) fun z => by rw [b6] at z; cases z), b4, b5, b6⟩
      · obtain ⟨q, es, ep, e, d, _⟩ := hns
        rw [← z, b3] at e
        rw [← Option.some.inj e, b6] at d
        cases d
      · rw [z, hT] at b3
        rw [← Option.some.inj b3] at b6
        cases b6
  have e0 : Env0 P w K mg (hidT s.heap H) callerA [] s H := ⟨rfl, md, fun b ob e => of_hidT e, Nat.le_of_eq (hidT_size _ _), trivial, fun b hb => absurd (show b ∈ ([] : List Addr) from hb) (by simp), hok, .of_eq hg⟩
  obtain ⟨f, fd, hf, _, hbind, G⟩ := F _ kin (ks hns) TB
  have ef : f = fa := by
    rw [hm] at hf
    cases hf
    rfl
  subst ef
  refine codeAny_mono (G.run callerA [] s H ⟨[.ref a], []⟩ [.ref a] [.ref a] _ _ rfl hr e0 (hbind s [.ref a] KX rfl) (.cons rfl .nil) (hsp H HT hS)) fun r s' h => ?_
  match r, h with
  | .error _, h => exact False.elim h
  | .ok .next, h => exact False.elim h
  | .ok .brk, h => exact False.elim h
  | .ok .cont, h => exact False.elim h
  | .ok (.ret u), ⟨v, H', os, bare, un, hok', r', q⟩ =>
    obtain rfl : v = .bl true := q
    obtain rfl : u = Value.bool true := r'
    have old : ∀ b ob, b ≠ T → s.heap.get? b = some ob → s'.heap.get? b = some ob := fun b ob nb e => by
      rcases cs b with ⟨z, _⟩ | ⟨_, z, _, y⟩ | ⟨_, y⟩
      · exact absurd z nb
      · have e1 := (hok b _ y).1
        have e2 := (hok' b _ (un.frzs b o _ y)).1
        exact e2.trans (e1.symm.trans e)
      · exact un.keep b ob e y (by intro z; exact absurd (show b ∈ ([] : List Addr) from z) (by simp)) (by simp)
    obtain ⟨more, gz⟩ := un.tbls T #[] HT
    have gT : s'.heap.get? T = some { cls := .none, data := .fields (#[] ++ more) } := hok' T _ gz
    refine ⟨rfl, ⟨fun b ob e => ?_, fun b ob e => ?_⟩, os, bare⟩
    · by_cases hb : b = T
      · rw [hb] at e ⊢
        rw [hT] at e
        cases e
        exact .inr (.inl ⟨(C.tab hT).isCodeTable, rfl, #[], more, rfl, gT⟩)
      · exact .inl (old b ob hb e)
    · by_cases hb : b = T
      · rw [hb]
        exact ⟨_, gT⟩
      · exact ⟨ob, old b ob hb e⟩
end RM
namespace RM
open PySem PySem.Spec PyProof.Rows L2
/-! ### the head: what is told of the top, the class NotUsable among it -/
def d_divisor_of : He.DefD := ⟨("divisor_of", none), "divisor_of", "divisor_of", defArgs s_divisor_of, defBody s_divisor_of, defScope s_divisor_of, [], []⟩
def d_common_divisor : He.DefD := ⟨("common_divisor", none), "common_divisor", "common_divisor", defArgs s_common_divisor, defBody s_common_divisor, defScope s_common_divisor, [], []⟩
def d_dot_by : He.DefD := ⟨("dot_by", none), "dot_by", "dot_by", defArgs s_dot_by, defBody s_dot_by, defScope s_dot_by, [], []⟩
def d_primes_by : He.DefD := ⟨("primes_by", none), "primes_by", "primes_by", defArgs s_primes_by, defBody s_primes_by, defScope s_primes_by, [], []⟩
def d_is_integer : He.DefD := ⟨("is_integer", none), "is_integer", "is_integer", defArgs s_is_integer, defBody s_is_integer, defScope s_is_integer, [], []⟩
def d_are_integers : He.DefD := ⟨("are_integers", none), "are_integers", "are_integers", defArgs s_are_integers, defBody s_are_integers, defScope s_are_integers, [], []⟩
def d_is_ray : He.DefD := ⟨("is_ray", none), "is_ray", "is_ray", defArgs s_is_ray, defBody s_is_ray, defScope s_is_ray, [], []⟩
def d_is_ray_of : He.DefD := ⟨("is_ray_of", none), "is_ray_of", "is_ray_of", defArgs s_is_ray_of, defBody s_is_ray_of, defScope s_is_ray_of, [], []⟩
def d_are_ascending : He.DefD := ⟨("are_ascending", none), "are_ascending", "are_ascending", defArgs s_are_ascending, defBody s_are_ascending, defScope s_are_ascending, [], []⟩
def d_is_class_size : He.DefD := ⟨("is_class_size", none), "is_class_size", "is_class_size", defArgs s_is_class_size, defBody s_is_class_size, defScope s_is_class_size, [], []⟩
def d_is_prime : He.DefD := ⟨("is_prime", none), "is_prime", "is_prime", defArgs s_is_prime, defBody s_is_prime, defScope s_is_prime, [], []⟩
def d_are_primes : He.DefD := ⟨("are_primes", none), "are_primes", "are_primes", defArgs s_are_primes, defBody s_are_primes, defScope s_are_primes, [], []⟩
def d_length_by : He.DefD := ⟨("length_by", none), "length_by", "length_by", defArgs s_length_by, defBody s_length_by, defScope s_length_by, [], []⟩
def d_is_within : He.DefD := ⟨("is_within", none), "is_within", "is_within", defArgs s_is_within, defBody s_is_within, defScope s_is_within, [], []⟩
def d_primes_in : He.DefD := ⟨("primes_in", none), "primes_in", "primes_in", defArgs s_primes_in, defBody s_primes_in, defScope s_primes_in, [], []⟩
def d_want : He.DefD := ⟨("want", none), "want", "want", defArgs s_want, defBody s_want, defScope s_want, [.int (-1)], []⟩
def d_want_class : He.DefD := ⟨("want_class", none), "want_class", "want_class", defArgs s_want_class, defBody s_want_class, defScope s_want_class, [], []⟩
def d_is_class : He.DefD := ⟨("is_class", none), "is_class", "is_class", defArgs s_is_class, defBody s_is_class, defScope s_is_class, [], []⟩
def d_is_in_class : He.DefD := ⟨("is_in_class", none), "is_in_class", "is_in_class", defArgs s_is_in_class, defBody s_is_in_class, defScope s_is_in_class, [], []⟩
def d_class_of : He.DefD := ⟨("class_of", none), "class_of", "class_of", defArgs s_class_of, defBody s_class_of, defScope s_class_of, [], []⟩
def d_law_spring : He.DefD := ⟨("_law_spring", none), "_law_spring", "_law_spring", defArgs s_law_spring, defBody s_law_spring, defScope s_law_spring, [], []⟩
def d_law_dip : He.DefD := ⟨("_law_dip", none), "_law_dip", "_law_dip", defArgs s_law_dip, defBody s_law_dip, defScope s_law_dip, [], []⟩
def d_law_pick : He.DefD := ⟨("_law_pick", none), "_law_pick", "_law_pick", defArgs s_law_pick, defBody s_law_pick, defScope s_law_pick, [], []⟩
def d_law_same : He.DefD := ⟨("_law_same", none), "_law_same", "_law_same", defArgs s_law_same, defBody s_law_same, defScope s_law_same, [], []⟩
def d_law_is_whole : He.DefD := ⟨("_law_is_whole", none), "_law_is_whole", "_law_is_whole", defArgs s_law_is_whole, defBody s_law_is_whole, defScope s_law_is_whole, [], []⟩
def d_law_common : He.DefD := ⟨("_law_common", none), "_law_common", "_law_common", defArgs s_law_common, defBody s_law_common, defScope s_law_common, [], []⟩
def d_law_common_of : He.DefD := ⟨("_law_common_of", none), "_law_common_of", "_law_common_of", defArgs s_law_common_of, defBody s_law_common_of, defScope s_law_common_of, [], []⟩
def d_law_is_beam : He.DefD := ⟨("_law_is_beam", none), "_law_is_beam", "_law_is_beam", defArgs s_law_is_beam, defBody s_law_is_beam, defScope s_law_is_beam, [], []⟩
def d_law_made : He.DefD := ⟨("_law_made", none), "_law_made", "_law_made", defArgs s_law_made, defBody s_law_made, defScope s_law_made, [], []⟩
def d_law_dot : He.DefD := ⟨("_law_dot", none), "_law_dot", "_law_dot", defArgs s_law_dot, defBody s_law_dot, defScope s_law_dot, [], []⟩
def d_law_is_in : He.DefD := ⟨("_law_is_in", none), "_law_is_in", "_law_is_in", defArgs s_law_is_in, defBody s_law_is_in, defScope s_law_is_in, [], []⟩
def d_law_primes : He.DefD := ⟨("_law_primes", none), "_law_primes", "_law_primes", defArgs s_law_primes, defBody s_law_primes, defScope s_law_primes, [], []⟩
def d_law_all : He.DefD := ⟨("_law_all", none), "_law_all", "_law_all", defArgs s_law_all, defBody s_law_all, defScope s_law_all, [], []⟩
def d_law_axes : He.DefD := ⟨("_law_axes", none), "_law_axes", "_law_axes", defArgs s_law_axes, defBody s_law_axes, defScope s_law_axes, [], []⟩
def d_law_nine : He.DefD := ⟨("_law_nine", none), "_law_nine", "_law_nine", defArgs s_law_nine, defBody s_law_nine, defScope s_law_nine, [], []⟩
def d_law_eighteen : He.DefD := ⟨("_law_eighteen", none), "_law_eighteen", "_law_eighteen", defArgs s_law_eighteen, defBody s_law_eighteen, defScope s_law_eighteen, [], []⟩
def d_law_turned : He.DefD := ⟨("_law_turned", none), "_law_turned", "_law_turned", defArgs s_law_turned, defBody s_law_turned, defScope s_law_turned, [], []⟩
def d_law_part : He.DefD := ⟨("_law_part", none), "_law_part", "_law_part", defArgs s_law_part, defBody s_law_part, defScope s_law_part, [], []⟩
def d_law_heap : He.DefD := ⟨("_law_heap", none), "_law_heap", "_law_heap", defArgs s_law_heap, defBody s_law_heap, defScope s_law_heap, [], []⟩
def d_law_heard : He.DefD := ⟨("_law_heard", none), "_law_heard", "_law_heard", defArgs s_law_heard, defBody s_law_heard, defScope s_law_heard, [], []⟩
def d_law_drawn : He.DefD := ⟨("_law_drawn", none), "_law_drawn", "_law_drawn", defArgs s_law_drawn, defBody s_law_drawn, defScope s_law_drawn, [], []⟩
def d_law_is_ray_right : He.DefD := ⟨("_law_is_ray_right", none), "_law_is_ray_right", "_law_is_ray_right", defArgs s_law_is_ray_right, defBody s_law_is_ray_right, defScope s_law_is_ray_right, [], []⟩
def d_law_is_lot_right : He.DefD := ⟨("_law_is_lot_right", none), "_law_is_lot_right", "_law_is_lot_right", defArgs s_law_is_lot_right, defBody s_law_is_lot_right, defScope s_law_is_lot_right, [], []⟩
def d_law : He.DefD := ⟨("law", none), "law", "law", defArgs s_law, defBody s_law, defScope s_law, [], []⟩
def fnL : List He.DefD := [d_divisor_of, d_common_divisor, d_dot_by, d_primes_by, d_is_integer, d_are_integers, d_is_ray, d_is_ray_of, d_are_ascending, d_is_class_size, d_is_prime, d_are_primes, d_length_by, d_is_within, d_primes_in, d_want, d_want_class, d_is_class, d_is_in_class, d_class_of, d_law_spring, d_law_dip, d_law_pick, d_law_same, d_law_is_whole, d_law_common, d_law_common_of, d_law_is_beam, d_law_made, d_law_dot, d_law_is_in, d_law_primes, d_law_all, d_law_axes, d_law_nine, d_law_eighteen, d_law_turned, d_law_part, d_law_heap, d_law_heard, d_law_drawn, d_law_is_ray_right, d_law_is_lot_right, d_law]
def faL : List He.Fa := [.glo "divisor_of", .glo "common_divisor", .glo "dot_by", .glo "primes_by", .glo "is_integer", .glo "are_integers", .glo "is_ray", .glo "is_ray_of", .glo "are_ascending", .glo "is_class_size", .glo "is_prime", .glo "are_primes", .glo "length_by", .glo "is_within", .glo "primes_in", .glo "want", .glo "want_class", .glo "is_class", .glo "is_in_class", .glo "class_of", .glo "_law_spring", .glo "_law_dip", .glo "_law_pick", .glo "_law_same", .glo "_law_is_whole", .glo "_law_common", .glo "_law_common_of", .glo "_law_is_beam", .glo "_law_made", .glo "_law_dot", .glo "_law_is_in", .glo "_law_primes", .glo "_law_all", .glo "_law_axes", .glo "_law_nine", .glo "_law_eighteen", .glo "_law_turned", .glo "_law_part", .glo "_law_heap", .glo "_law_heard", .glo "_law_drawn", .glo "_law_is_ray_right", .glo "_law_is_lot_right", .glo "law", .glo "RayError", .glo "PaperError", .glo "LotError", .glo "LiveError", .glo "TextError", .glo "InvalidPaper", .glo "NotUsable", .glo "NoMarks", .glo "TooMany", .glo "InvalidEvent", .glo "InvalidText", .glo "InvalidRow", .int "LEAST_CLASS" 3, .int "MOST_CLASS" 5, .int "TOP_PRIME" 1000000, .int "TOP_ROOT" 1000, .free "ValueError", .free "abs", .free "all", .free "bool", .free "int", .free "isinstance", .free "len", .free "list", .free "range", .free "repr", .free "set", .free "sorted", .free "sum", .free "tuple", .free "zip", .free "super"]
def names0 : List PySem.Str := ["divisor_of", "common_divisor", "dot_by", "primes_by", "is_integer", "are_integers", "is_ray", "is_ray_of", "are_ascending", "is_class_size", "is_prime", "are_primes", "length_by", "is_within", "primes_in", "want", "want_class", "is_class", "is_in_class", "class_of"]
def names1 : List PySem.Str := ["_law_spring", "_law_dip", "_law_pick", "_law_same", "_law_is_whole", "_law_common", "_law_common_of", "_law_is_beam", "_law_made", "_law_dot", "_law_is_in", "_law_primes", "_law_all", "_law_axes", "_law_nine", "_law_eighteen", "_law_turned", "_law_part", "_law_heap", "_law_heard"]
def names2 : List PySem.Str := ["_law_drawn", "_law_is_ray_right", "_law_is_lot_right", "RayError", "PaperError", "LotError", "LiveError", "TextError", "InvalidPaper", "NotUsable", "NoMarks", "TooMany", "InvalidEvent", "InvalidText", "InvalidRow", "LEAST_CLASS", "MOST_CLASS", "TOP_PRIME", "TOP_ROOT"]
def loose : List PySem.Str := names0 ++ names1 ++ names2
abbrev R : PySem.W.OpenRow := PySem.W.OpenLaw.row PySem.Challenge.rw_rightmarks_k33_whole_classes_by_lengths
def tfL : List He.Defn := [("_law_is_lot_right", none)]
def nuC (K : PySem.W.Frag) : Addr := He.ga K "NotUsable"
def nuI (K : PySem.W.Frag) : Addr := He.ma K (nuC K) "__init__"
/-- the class object at C is one of an error over ValueError -/
def clsB (K : PySem.W.Frag) (C : Addr) : Bool := match K.lookup C with
  | some ⟨.type t, _, .cls cd, sl⟩ => (match cd.mro, sl.toList with
    | .ref D :: bm, [_, _, _, _, some (.builtin n), _] => decide (t = "type") && (decide (D = C) && (decide (n = "ValueError.__new__") && (cd.hasDict && (!cd.hasDel && PySem.HandSPX.refsVE bm))))
    | _, _ => false)
  | _ => false
theorem clsB_ok {K : PySem.W.Frag} {C : Addr} (h : clsB K C = true) :
    ∃ nm q N bs bm sn sub ab col dd k0 k1 k2 k3 k5, K.lookup C = some (excClassObj nm q C N bs bm true sn sub ab col dd k0 k1 k2 k3 k5 "ValueError.__new__") ∧ PySem.HandSPX.refsVE bm = true := by
  unfold clsB at h
  split at h
  · rename_i t dd cd sl ho
    split at h
    · rename_i D bm k0 k1 k2 k3 n k5 hm hs
      obtain ⟨h1, h⟩ := He.ba h
      obtain ⟨h2, h⟩ := He.ba h
      obtain ⟨h3, h⟩ := He.ba h
      obtain ⟨h4, h⟩ := He.ba h
      obtain ⟨h5, h6⟩ := He.ba h
      obtain rfl := of_decide_eq_true h1
      obtain rfl := of_decide_eq_true h2
      obtain rfl := of_decide_eq_true h3
      obtain ⟨nm, bs, mro, ns, qn, hd, sn, sub, ab, col, del⟩ := cd
      have e4 : hd = true := h4
      have e5 : del = false := by
        cases del with
        | false => rfl
        | true => cases h5
      have em : mro = .ref D :: bm := hm
      have es : sl = #[k0, k1, k2, k3, some (.builtin "ValueError.__new__"), k5] := by
        obtain ⟨l⟩ := sl
        have hs2 : l = [k0, k1, k2, k3, some (.builtin "ValueError.__new__"), k5] := hs
        rw [hs2]
      subst e4 e5 em es
      exact ⟨nm, qn, ns, bs, bm, sn, sub, ab, col, dd, k0, k1, k2, k3, k5, ho, h6⟩
    · cases h
  · cases h
/-- one cell, of the class at C -/
def celB (K : PySem.W.Frag) (C : Addr) : List (Str × Addr) → Bool
  | [q] => (match K.lookup q.2 with
    | some ⟨_, _, .cell (some (.ref D)), _⟩ => decide (D = C)
    | _ => false)
  | _ => false
theorem celB_ok {K : PySem.W.Frag} {C : Addr} {l : List (Str × Addr)} {x : Str} (h : celB K C l = true) (e : l.map (·.1) = [x]) : ∃ (cc : Addr) (cl : Value) (cld : Option Addr) (csl : Array (Option Value)), l = [(x, cc)] ∧ K.lookup cc = some ⟨cl, cld, .cell (some (.ref C)), csl⟩ := by
  match l, h, e with
  | [(y, cc)], h, e =>
    obtain rfl : y = x := List.head_eq_of_cons_eq e
    have h2 : (match K.lookup cc with
      | some ⟨_, _, .cell (some (.ref D)), _⟩ => decide (D = C)
      | _ => false) = true := h
    split at h2
    · rename_i cl cld D csl hc
      obtain rfl := of_decide_eq_true h2
      exact ⟨cc, cl, cld, csl, rfl, hc⟩
    · cases h2
/-- a code object's file -/
def filB (K : PySem.W.Frag) (file : Str) : Value → Bool
  | .ref cda => (match K.lookup cda with
    | some ⟨_, _, .fields vs, _⟩ => (match (vs[2]? : Option Value) with
      | some (.str y _) => decide (y = file)
      | _ => false)
    | _ => false)
  | _ => false
theorem filB_ok {K : PySem.W.Frag} {file : Str} {cda : Addr} (h : filB K file (.ref cda) = true) : ∃ (ccl : Value) (cdd : Option Addr) (vs : Array Value) (ccs : Array (Option Value)) (tf : Tok), K.lookup cda = some ⟨ccl, cdd, .fields vs, ccs⟩ ∧ vs[2]? = some (.str file tf) := by
  have h2 : (match K.lookup cda with
    | some ⟨_, _, .fields vs, _⟩ => (match (vs[2]? : Option Value) with
      | some (.str y _) => decide (y = file)
      | _ => false)
    | _ => false) = true := h
  split at h2
  · rename_i ccl cdd vs ccs hk
    split at h2
    · rename_i y tf hv
      obtain rfl := of_decide_eq_true h2
      exact ⟨ccl, cdd, vs, ccs, tf, hk, hv⟩
    · cases h2
  · cases h2
/-- the code object's file; the cell's class -/
def codB (K : PySem.W.Frag) (fI C : Addr) (file : Str) : Bool := match K.lookup fI with
  | some ⟨_, _, .func fd, _⟩ => PySem.W.codeIn K fd.code "NotUsable.__init__" && (filB K file fd.code && celB K C fd.closure)
  | _ => false
abbrev IV : Type := Option (Str × Str × Arguments × FuncBody × Scope × Addr × List Str × Value × Value × Addr)
def iObs (K : PySem.W.Frag) : IV := match K.lookup (nuI K) with
  | some ⟨_, _, .func fd, _⟩ => some (fd.name, fd.qualname, fd.params, fd.body, fd.scope, fd.globals, fd.closure.map (·.1), fd.defaults, fd.kwdefaults, fd.builtins)
  | _ => none
def iVal : IV := some ("__init__", "NotUsable.__init__", defArgs nuInit, .stmts (defBody nuInit), defScope nuInit, mainGlobals, ["__class__"], .none, .none, builtinsNs)
theorem fn_of {K : PySem.W.Frag} {file : Str} {C : Addr} (e : iObs K = iVal) (h : codB K (nuI K) C file = true) :
    ∃ (oc : Value) (od : Option Addr) (doc pm : Value) (an : Option Addr) (cda cc : Addr) (ct : Value) (osl : Array (Option Value)) (ccl : Value) (cdd : Option Addr) (vs : Array Value) (ccs : Array (Option Value)) (tf : Tok) (cl : Value) (cld : Option Addr) (csl : Array (Option Value)),
      K.lookup (nuI K) = some ⟨oc, od, .func (PySem.W.ksFn "__init__" "NotUsable.__init__" (defArgs nuInit) (defBody nuInit) (defScope nuInit) .none .none doc pm an (.ref cda) ct cc), osl⟩ ∧ PySem.W.codeIn K (.ref cda) "NotUsable.__init__" = true ∧
      K.lookup cda = some ⟨ccl, cdd, .fields vs, ccs⟩ ∧ vs[2]? = some (.str file tf) ∧ K.lookup cc = some ⟨cl, cld, .cell (some (.ref C)), csl⟩ := by
  unfold iObs at e
  unfold codB at h
  cases q : K.lookup (nuI K) with
  | none =>
    rw [q] at h
    cases h
  | some o =>
    obtain ⟨oc, od, dt, osl⟩ := o
    rw [q] at h e
    cases dt with
    | func fd =>
      obtain ⟨n1, n2, n3, n4, n5, n6, n7, n8, n9, n10, n11, n12, n13, n14, n15⟩ := fd
      have e2 : (some (n1, n2, n3, n4, n5, n6, n7.map (·.1), n8, n9, n15) : IV) = (some ("__init__", "NotUsable.__init__", defArgs nuInit, .stmts (defBody nuInit), defScope nuInit, mainGlobals, ["__class__"], .none, .none, builtinsNs) : IV) := e
      simp only [Option.some.injEq, Prod.mk.injEq] at e2
      obtain ⟨h1, h2, h3, h4, h5, h6, h7, h8, h9, h10⟩ := e2
      subst h1 h2 h3 h4 h5 h6 h8 h9 h10
      obtain ⟨a1, a2⟩ := He.ba h
      obtain ⟨a3, a4⟩ := He.ba a2
      obtain ⟨cda, rfl⟩ := He.codeIn_ref a1
      obtain ⟨ccl, cdd, vs, ccs, tf, hk, hv⟩ := filB_ok (cda := cda) a3
      obtain ⟨cc, cl, cld, csl, rfl, hc⟩ := celB_ok (l := n7) a4 h7
      exact ⟨oc, od, n10, n11, n12, cda, cc, n14, osl, ccl, cdd, vs, ccs, tf, cl, cld, csl, rfl, a1, hk, hv, hc⟩
    | _ => cases h
/-- the class's facts, one by one -/
def exL (file : Str) (K : PySem.W.Frag) : List Bool := [clsB K (nuC K),
  He.eqO (PySem.W.findIn K (.ref (nuC K)) "__setattr__") (some (some (.builtin "object.__setattr__"))),
  He.eqO (PySem.W.findIn K (.ref (nuC K)) "__getattribute__") (some (some (.builtin "BaseException.__getattribute__"))),
  He.eqO (PySem.W.findIn K (.ref (nuC K)) "__getattr__") (some none),
  decide (PySem.W.subIn K (.ref (nuC K)) (.type "BaseException") = some true),
  PySem.W.hasDictIn K (nuC K),
  He.eqO (PySem.W.findIn K (.ref (nuC K)) "__class__") (some (some (.builtin "object.__class__"))),
  He.eqO (PySem.W.specialIn K (.builtin "object.__class__") "__get__") (some (some (.builtin "getset_descriptor.__get__"))),
  decide (PySem.W.takesIn K (.builtin "object.__class__") = some true),
  decide (PySem.W.mroIn K (nuC K) (.type "object") = some true),
  He.eqO (PySem.W.findIn K (.ref (nuC K)) "word") (some none),
  He.eqO (PySem.W.findIn K (.ref (nuC K)) "at") (some none),
  He.eqO (PySem.W.findIn K (.ref (nuC K)) "__init__") (some (some (.ref (nuI K)))),
  decide (PySem.W.typeIn K (.ref (nuI K)) = some (.type "function")),
  PySem.W.keepIn K (.ref (nuC K)),
  decide (PySem.W.typeIn K (.ref (nuC K)) = some (.type "type")),
  decide (PySem.W.subIn K (.ref (nuC K)) (.type "ValueError") = some true),
  He.eqO (PySem.W.ks_superIn K (nuC K) (nuC K) "__init__") (some (some (.builtin "ValueError.__init__"))),
  decide (PySem.W.mroIn K (nuC K) (.ref (nuC K)) = some true),
  He.eqO (PySem.W.nsIn K cStatics "thirdparty.any") (some none),
  codB K (nuI K) (nuC K) file,
  decide (PySem.W.exmOne K (.ref (nuC K)) (.ref (He.ga K "RayError")) = some true),
  decide (PySem.W.kitOne K (.ref (nuC K)) (.ref (He.ga K "PaperError")) = some false),
  decide (PySem.W.kitOne K (.ref (nuC K)) (.ref (He.ga K "LotError")) = some true),
  decide (PySem.W.kitOne K (.ref (nuC K)) (.ref (He.ga K "LiveError")) = some false),
  decide (PySem.W.kitOne K (.ref (nuC K)) (.ref (He.ga K "TextError")) = some false),
  decide (PySem.W.kitOne K (.ref (nuC K)) (.ref (He.ga K "InvalidPaper")) = some false),
  decide (PySem.W.kitOne K (.ref (nuC K)) (.ref (He.ga K "NotUsable")) = some true),
  decide (PySem.W.kitOne K (.ref (nuC K)) (.ref (He.ga K "NoMarks")) = some false),
  decide (PySem.W.kitOne K (.ref (nuC K)) (.ref (He.ga K "TooMany")) = some false),
  decide (PySem.W.kitOne K (.ref (nuC K)) (.ref (He.ga K "InvalidEvent")) = some false),
  decide (PySem.W.kitOne K (.ref (nuC K)) (.ref (He.ga K "InvalidText")) = some false),
  decide (PySem.W.kitOne K (.ref (nuC K)) (.ref (He.ga K "InvalidRow")) = some false),
  decide (PySem.W.kitOne K (.ref (nuC K)) (.type "ValueError") = some true)]
def exB (file : Str) (K : PySem.W.Frag) : Bool := (exL file K).all fun b => b
theorem exB_at {file : Str} {K : PySem.W.Frag} (h : exB file K = true) (i : Nat) {b : Bool} (e : (exL file K)[i]? = some b) : b = true :=
  List.all_eq_true.mp h b (List.mem_of_getElem? e)
theorem nuTxt_of {file : Str} {K : PySem.W.Frag} (e : iObs K = iVal) (h : exB file K = true) : NuTxt K file (nuC K) (nuI K) where
  cls := clsB_ok (exB_at h 0 rfl)
  sa := He.eqO_ok (exB_at h 1 rfl)
  ec := ⟨He.eqO_ok (exB_at h 2 rfl), He.eqO_ok (exB_at h 3 rfl), of_decide_eq_true (exB_at h 4 rfl), exB_at h 5 rfl, He.eqO_ok (exB_at h 6 rfl), He.eqO_ok (exB_at h 7 rfl), of_decide_eq_true (exB_at h 8 rfl), of_decide_eq_true (exB_at h 9 rfl)⟩
  noW := He.eqO_ok (exB_at h 10 rfl)
  noA := He.eqO_ok (exB_at h 11 rfl)
  iC := He.eqO_ok (exB_at h 12 rfl)
  tI := of_decide_eq_true (exB_at h 13 rfl)
  kC := exB_at h 14 rfl
  tyC := of_decide_eq_true (exB_at h 15 rfl)
  ve := of_decide_eq_true (exB_at h 16 rfl)
  sup := He.eqO_ok (exB_at h 17 rfl)
  own := of_decide_eq_true (exB_at h 18 rfl)
  third := He.eqO_ok (exB_at h 19 rfl)
  fn := fn_of e (exB_at h 20 rfl)
/-! ### the Hook -/
def asN (g : Addr → Option Obj) : List Addr := cStatics :: He.asD g 6
structure SaysN (file : Str) (w : World) (h : Heap) (K : PySem.W.Frag) : Prop where
  t : He.SaysT faL fnL [] w K
  more : exB file K = true
  i : iObs K = iVal
  hd : PySem.W.codeHdIn K (He.cT K ("_law_is_lot_right", none)).1 (He.cT K ("_law_is_lot_right", none)).2 = true
  out : K.lookup (He.cT K ("_law_is_lot_right", none)).2 = none
  empty : h.get? (He.cT K ("_law_is_lot_right", none)).2 = some { cls := .none, data := .fields #[] }
abbrev AlN : Type := He.AlT × Bool × IV
def obsN (file : Str) (g : Addr → Option Obj) : AlN := (He.obsT faL fnL [] (He.frT g (asN g)), exB file (He.frT g (asN g)) && He.tabsB g tfL (He.frT g (asN g)), iObs (He.frT g (asN g)))
def valN (w : World) : AlN := (He.valT fnL [] w, true, iVal)
theorem saysN_of {file : Str} {w : World} {h : Heap} (e : obsN file h.get? = valN w) : SaysN file w h (He.frT h.get? (asN h.get?)) := by
  have e1 : He.obsT faL fnL [] (He.frT h.get? (asN h.get?)) = He.valT fnL [] w := congrArg (fun z : AlN => z.1) e
  have e2 : (exB file (He.frT h.get? (asN h.get?)) && He.tabsB h.get? tfL (He.frT h.get? (asN h.get?))) = true := congrArg (fun z : AlN => z.2.1) e
  have e3 : iObs (He.frT h.get? (asN h.get?)) = iVal := congrArg (fun z : AlN => z.2.2) e
  obtain ⟨a1, a2⟩ := He.ba e2
  obtain ⟨b1, b2⟩ := He.ba (List.all_eq_true.mp a2 ("_law_is_lot_right", none) List.mem_cons_self)
  cases q : h.get? (He.cT (He.frT h.get? (asN h.get?)) ("_law_is_lot_right", none)).2 with
  | none =>
    rw [q] at b2
    cases b2
  | some o =>
    rw [q] at b2
    exact ⟨e1, a1, e3, b1, He.frT_none q b2, by rw [q, He.emptyTab_eq b2]⟩
def hookN (file : Str) : PySem.W.Hook where
  α := AlN
  obs := fun s => obsN file s.heap.get?
  val := fun w => valN w
  says := fun w h => ∃ K : PySem.W.Frag, K.In h ∧ SaysN file w h K
  of := fun _ _ e => ⟨_, He.frT_in, saysN_of e⟩
  keeps := fun _ _ _ ⟨K, hK, c⟩ k => ⟨K, PySem.W.Frag.In.keeps hK k, ⟨c.t, c.more, c.i, c.hd, c.out, k _ _ c.empty⟩⟩
theorem obsN_eq {file : Str} {g : Addr → Option Obj} {s : Shared} (h : ∀ a, g a = s.heap.get? a) : obsN file g = (hookN file).obs s := by
  have e : g = s.heap.get? := funext h
  rw [e] <;> rfl
abbrev hk : PySem.W.Hook := hookN R.prog.main.file
def ob (s : PySem.W.SharedT) : AlN := obsN R.prog.main.file (HandSHeadRun.getT s)
theorem ob_eq (s : PySem.W.SharedT) : ob s = hk.obs s.abs := obsN_eq (HandSHeadRun.getT_eq s)
end RM
namespace RM
open PySem PySem.Spec PyProof.Rows L2
theorem def_of {K : PySem.W.Frag} {mg : Str → Option Value} {x : Str} {st : Stmt} (hm : mg x = some (.ref (He.ga K x))) (F : ∃ fd, FunD K x x (defArgs st) (defBody st) (defScope st) [] [] (He.ga K x) fd) : Def K mg x st := by
  obtain ⟨fd, F⟩ := F
  exact ⟨_, fd, hm, F⟩
theorem defC_of {K : PySem.W.Frag} {mg : Str → Option Value} {x : Str} {st : Stmt} (hm : mg x = some (.ref (He.ga K x))) (F : ∃ fd, FunD K x x (defArgs st) (defBody st) (defScope st) [] [] (He.fAd K (x, none)) fd) : DefC K mg x st (He.cT K (x, none)).1 := by
  obtain ⟨fd, F⟩ := F
  obtain ⟨oc, od, dV, kV, doc, pm, an, cdv, ct, osl, e, lk, hcd, _, _⟩ := F.ex
  obtain ⟨c, hc⟩ := He.codeIn_ref hcd
  have h2 : fd.code = .ref c := by
    rw [e]
    exact hc
  refine ⟨_, fd, hm, F, ?_⟩
  show fd.code = .ref (He.codeOf K (x, none))
  rw [He.codeOf_eq lk h2]
  exact h2
section
variable {P : Program} {w : World} {K : PySem.W.Frag} {mg : Str → Option Value} {base h : Heap} {file : Str}
theorem txt_of (X : K.In h) (G : h.Ns mainGlobals mg) (c : SaysN file w h K) : Txt mg where
  abs := He.free_ok X G (c.t.d.fact 61 (f := .free "abs") rfl)
  all := He.free_ok X G (c.t.d.fact 62 (f := .free "all") rfl)
  bool := He.free_ok X G (c.t.d.fact 63 (f := .free "bool") rfl)
  int := He.free_ok X G (c.t.d.fact 64 (f := .free "int") rfl)
  isinstance := He.free_ok X G (c.t.d.fact 65 (f := .free "isinstance") rfl)
  len := He.free_ok X G (c.t.d.fact 66 (f := .free "len") rfl)
  list := He.free_ok X G (c.t.d.fact 67 (f := .free "list") rfl)
  range := He.free_ok X G (c.t.d.fact 68 (f := .free "range") rfl)
  repr := He.free_ok X G (c.t.d.fact 69 (f := .free "repr") rfl)
  set := He.free_ok X G (c.t.d.fact 70 (f := .free "set") rfl)
  sorted := He.free_ok X G (c.t.d.fact 71 (f := .free "sorted") rfl)
  sum := He.free_ok X G (c.t.d.fact 72 (f := .free "sum") rfl)
  tuple := He.free_ok X G (c.t.d.fact 73 (f := .free "tuple") rfl)
  zip := He.free_ok X G (c.t.d.fact 74 (f := .free "zip") rfl)
  verr := He.free_ok X G (c.t.d.fact 60 (f := .free "ValueError") rfl)
  leastC := He.int_ok X G (c.t.d.fact 56 (f := .int "LEAST_CLASS" 3) rfl)
  mostC := He.int_ok X G (c.t.d.fact 57 (f := .int "MOST_CLASS" 5) rfl)
  topP := He.int_ok X G (c.t.d.fact 58 (f := .int "TOP_PRIME" 1000000) rfl)
  topR := He.int_ok X G (c.t.d.fact 59 (f := .int "TOP_ROOT" 1000) rfl)
theorem nuMod_of (X : K.In h) (G : h.Ns mainGlobals mg) (c : SaysN P.main.file w h K) (ht : (P.main.scope.names.lookup ("super" : Str)).isSome = false) : NuMod P K mg (nuC K) (nuI K) where
  txt := nuTxt_of c.i c.more
  g := (He.glo_ok X G (c.t.d.fact 50 (f := .glo "NotUsable") rfl))
  sup := He.free_ok X G (c.t.d.fact 75 (f := .free "super") rfl)
  top := ht
theorem clsTxt_of (X : K.In h) (G : h.Ns mainGlobals mg) (c : SaysN file w h K) : ClsTxt K mg (nuC K) where
  ray := ⟨_, (He.glo_ok X G (c.t.d.fact 44 (f := .glo "RayError") rfl)), of_decide_eq_true (exB_at c.more 21 rfl)⟩
  paper := ⟨_, (He.glo_ok X G (c.t.d.fact 45 (f := .glo "PaperError") rfl)), of_decide_eq_true (exB_at c.more 22 rfl)⟩
  lot := ⟨_, (He.glo_ok X G (c.t.d.fact 46 (f := .glo "LotError") rfl)), of_decide_eq_true (exB_at c.more 23 rfl)⟩
  live := ⟨_, (He.glo_ok X G (c.t.d.fact 47 (f := .glo "LiveError") rfl)), of_decide_eq_true (exB_at c.more 24 rfl)⟩
  text := ⟨_, (He.glo_ok X G (c.t.d.fact 48 (f := .glo "TextError") rfl)), of_decide_eq_true (exB_at c.more 25 rfl)⟩
  ipaper := ⟨_, (He.glo_ok X G (c.t.d.fact 49 (f := .glo "InvalidPaper") rfl)), of_decide_eq_true (exB_at c.more 26 rfl)⟩
  nu := ⟨_, (He.glo_ok X G (c.t.d.fact 50 (f := .glo "NotUsable") rfl)), of_decide_eq_true (exB_at c.more 27 rfl)⟩
  marks := ⟨_, (He.glo_ok X G (c.t.d.fact 51 (f := .glo "NoMarks") rfl)), of_decide_eq_true (exB_at c.more 28 rfl)⟩
  many := ⟨_, (He.glo_ok X G (c.t.d.fact 52 (f := .glo "TooMany") rfl)), of_decide_eq_true (exB_at c.more 29 rfl)⟩
  ievent := ⟨_, (He.glo_ok X G (c.t.d.fact 53 (f := .glo "InvalidEvent") rfl)), of_decide_eq_true (exB_at c.more 30 rfl)⟩
  itext := ⟨_, (He.glo_ok X G (c.t.d.fact 54 (f := .glo "InvalidText") rfl)), of_decide_eq_true (exB_at c.more 31 rfl)⟩
  irow := ⟨_, (He.glo_ok X G (c.t.d.fact 55 (f := .glo "InvalidRow") rfl)), of_decide_eq_true (exB_at c.more 32 rfl)⟩
  verr := of_decide_eq_true (exB_at c.more 33 rfl)
theorem law_cal (X : K.In h) (G : h.Ns mainGlobals mg) (c : SaysN P.main.file w h K) (ht : (P.main.scope.names.lookup ("super" : Str)).isSome = false) (TB : LamX.TabB base mg (He.cT K ("_law_is_lot_right", none)).1 (He.cT K ("_law_is_lot_right", none)).2) :
    CalG CX0 P w K mg base "law" ["_law_script"] 20 (spLaw K (He.cT K ("_law_is_lot_right", none)).2) := by
  have T := txt_of X G c
  have U := nuMod_of X G c ht
  have Z := clsTxt_of X G c
  have c_divisor_of := cal_divisor_of (P := P) (w := w) (base := base) T (def_of (He.glo_ok X G (c.t.d.fact 0 (f := .glo "divisor_of") rfl)) (c.t.d.def_ 0 (d := d_divisor_of) rfl)) 
  have c_common_divisor := cal_common_divisor (P := P) (w := w) (base := base) T (def_of (He.glo_ok X G (c.t.d.fact 1 (f := .glo "common_divisor") rfl)) (c.t.d.def_ 1 (d := d_common_divisor) rfl)) c_divisor_of
  have c_dot_by := cal_dot_by (P := P) (w := w) (base := base) T (def_of (He.glo_ok X G (c.t.d.fact 2 (f := .glo "dot_by") rfl)) (c.t.d.def_ 2 (d := d_dot_by) rfl)) 
  have c_is_integer := cal_is_integer (P := P) (w := w) (base := base) T (def_of (He.glo_ok X G (c.t.d.fact 4 (f := .glo "is_integer") rfl)) (c.t.d.def_ 4 (d := d_is_integer) rfl)) 
  have c_are_integers := cal_are_integers (P := P) (w := w) (base := base) T (def_of (He.glo_ok X G (c.t.d.fact 5 (f := .glo "are_integers") rfl)) (c.t.d.def_ 5 (d := d_are_integers) rfl)) c_is_integer
  have c_is_ray := cal_is_ray (P := P) (w := w) (base := base) T (def_of (He.glo_ok X G (c.t.d.fact 6 (f := .glo "is_ray") rfl)) (c.t.d.def_ 6 (d := d_is_ray) rfl)) c_are_integers c_common_divisor
  have c_is_ray_of := cal_is_ray_of (P := P) (w := w) (base := base) T (def_of (He.glo_ok X G (c.t.d.fact 7 (f := .glo "is_ray_of") rfl)) (c.t.d.def_ 7 (d := d_is_ray_of) rfl)) c_is_ray
  have c_are_ascending := cal_are_ascending (P := P) (w := w) (base := base) T (def_of (He.glo_ok X G (c.t.d.fact 8 (f := .glo "are_ascending") rfl)) (c.t.d.def_ 8 (d := d_are_ascending) rfl)) 
  have c_is_class_size := cal_is_class_size (P := P) (w := w) (base := base) T (def_of (He.glo_ok X G (c.t.d.fact 9 (f := .glo "is_class_size") rfl)) (c.t.d.def_ 9 (d := d_is_class_size) rfl)) c_is_integer
  have c_is_prime := cal_is_prime (P := P) (w := w) (base := base) T (def_of (He.glo_ok X G (c.t.d.fact 10 (f := .glo "is_prime") rfl)) (c.t.d.def_ 10 (d := d_is_prime) rfl)) c_is_integer
  have c_are_primes := cal_are_primes (P := P) (w := w) (base := base) T (def_of (He.glo_ok X G (c.t.d.fact 11 (f := .glo "are_primes") rfl)) (c.t.d.def_ 11 (d := d_are_primes) rfl)) c_is_prime c_are_ascending
  have c_length_by := cal_length_by (P := P) (w := w) (base := base) T (def_of (He.glo_ok X G (c.t.d.fact 12 (f := .glo "length_by") rfl)) (c.t.d.def_ 12 (d := d_length_by) rfl)) c_dot_by
  have c_is_within := cal_is_within (P := P) (w := w) (base := base) T (def_of (He.glo_ok X G (c.t.d.fact 13 (f := .glo "is_within") rfl)) (c.t.d.def_ 13 (d := d_is_within) rfl)) c_length_by
  have c_primes_by := cal_primes_by (P := P) (w := w) (base := base) T (def_of (He.glo_ok X G (c.t.d.fact 3 (f := .glo "primes_by") rfl)) (c.t.d.def_ 3 (d := d_primes_by) rfl)) 
  have c_primes_in := cal_primes_in (P := P) (w := w) (base := base) T (def_of (He.glo_ok X G (c.t.d.fact 14 (f := .glo "primes_in") rfl)) (c.t.d.def_ 14 (d := d_primes_in) rfl)) c_length_by c_primes_by
  have D_want : DefD K mg "want" s_want [.int (-1)] := by
    obtain ⟨fd, F⟩ := c.t.d.def_ 15 (d := d_want) rfl
    exact ⟨_, fd, (He.glo_ok X G (c.t.d.fact 15 (f := .glo "want") rfl)), F⟩
  have c_want := cal_want (P := P) (w := w) (base := base) D_want
  have c_want_class := cal_want_class (P := P) (w := w) (base := base) T (def_of (He.glo_ok X G (c.t.d.fact 16 (f := .glo "want_class") rfl)) (c.t.d.def_ 16 (d := d_want_class) rfl)) c_is_class_size c_are_primes c_want
  have c_is_class := cal_is_class (P := P) (w := w) (base := base) T (def_of (He.glo_ok X G (c.t.d.fact 17 (f := .glo "is_class") rfl)) (c.t.d.def_ 17 (d := d_is_class) rfl)) c_is_class_size c_are_primes
  have c_is_in_class := cal_is_in_class (P := P) (w := w) (base := base) T (def_of (He.glo_ok X G (c.t.d.fact 18 (f := .glo "is_in_class") rfl)) (c.t.d.def_ 18 (d := d_is_in_class) rfl)) c_want_class c_is_ray_of c_is_within c_want
  have c_class_of := cal_class_of (P := P) (w := w) (base := base) T (def_of (He.glo_ok X G (c.t.d.fact 19 (f := .glo "class_of") rfl)) (c.t.d.def_ 19 (d := d_class_of) rfl)) c_primes_in c_want
  have c_law_spring := cal_law_spring (P := P) (w := w) (base := base) T (def_of (He.glo_ok X G (c.t.d.fact 20 (f := .glo "_law_spring") rfl)) (c.t.d.def_ 20 (d := d_law_spring) rfl)) 
  have c_law_dip := cal_law_dip (P := P) (w := w) (base := base) T (def_of (He.glo_ok X G (c.t.d.fact 21 (f := .glo "_law_dip") rfl)) (c.t.d.def_ 21 (d := d_law_dip) rfl)) 
  have c_law_common := cal_law_common (P := P) (w := w) (base := base) T (def_of (He.glo_ok X G (c.t.d.fact 25 (f := .glo "_law_common") rfl)) (c.t.d.def_ 25 (d := d_law_common) rfl)) 
  have c_law_common_of := cal_law_common_of (P := P) (w := w) (base := base) T (def_of (He.glo_ok X G (c.t.d.fact 26 (f := .glo "_law_common_of") rfl)) (c.t.d.def_ 26 (d := d_law_common_of) rfl)) c_law_common
  have c_law_dot := cal_law_dot (P := P) (w := w) (base := base) T (def_of (He.glo_ok X G (c.t.d.fact 29 (f := .glo "_law_dot") rfl)) (c.t.d.def_ 29 (d := d_law_dot) rfl)) 
  have c_law_is_in := cal_law_is_in (P := P) (w := w) (base := base) T (def_of (He.glo_ok X G (c.t.d.fact 30 (f := .glo "_law_is_in") rfl)) (c.t.d.def_ 30 (d := d_law_is_in) rfl)) c_law_dot
  have c_law_primes := cal_law_primes (P := P) (w := w) (base := base) T (def_of (He.glo_ok X G (c.t.d.fact 31 (f := .glo "_law_primes") rfl)) (c.t.d.def_ 31 (d := d_law_primes) rfl)) 
  have c_law_pick := cal_law_pick (P := P) (w := w) (base := base) T (def_of (He.glo_ok X G (c.t.d.fact 22 (f := .glo "_law_pick") rfl)) (c.t.d.def_ 22 (d := d_law_pick) rfl)) c_law_dip
  have c_law_is_whole := cal_law_is_whole (P := P) (w := w) (base := base) T (def_of (He.glo_ok X G (c.t.d.fact 24 (f := .glo "_law_is_whole") rfl)) (c.t.d.def_ 24 (d := d_law_is_whole) rfl)) 
  have c_law_is_beam := cal_law_is_beam (P := P) (w := w) (base := base) T (def_of (He.glo_ok X G (c.t.d.fact 27 (f := .glo "_law_is_beam") rfl)) (c.t.d.def_ 27 (d := d_law_is_beam) rfl)) c_law_is_whole c_law_common_of
  have c_law_made := cal_law_made (P := P) (w := w) (base := base) T (def_of (He.glo_ok X G (c.t.d.fact 28 (f := .glo "_law_made") rfl)) (c.t.d.def_ 28 (d := d_law_made) rfl)) c_law_common_of
  have c_law_nine := cal_law_nine (P := P) (w := w) (base := base) T (def_of (He.glo_ok X G (c.t.d.fact 34 (f := .glo "_law_nine") rfl)) (c.t.d.def_ 34 (d := d_law_nine) rfl)) 
  have c_law_eighteen := cal_law_eighteen (P := P) (w := w) (base := base) T (def_of (He.glo_ok X G (c.t.d.fact 35 (f := .glo "_law_eighteen") rfl)) (c.t.d.def_ 35 (d := d_law_eighteen) rfl)) 
  have c_law_axes := cal_law_axes (P := P) (w := w) (base := base) T (def_of (He.glo_ok X G (c.t.d.fact 33 (f := .glo "_law_axes") rfl)) (c.t.d.def_ 33 (d := d_law_axes) rfl)) 
  have c_law_all := cal_law_all (P := P) (w := w) (base := base) T (def_of (He.glo_ok X G (c.t.d.fact 32 (f := .glo "_law_all") rfl)) (c.t.d.def_ 32 (d := d_law_all) rfl)) c_law_is_beam
  have c_law_part := cal_law_part (P := P) (w := w) (base := base) T (def_of (He.glo_ok X G (c.t.d.fact 37 (f := .glo "_law_part") rfl)) (c.t.d.def_ 37 (d := d_law_part) rfl)) c_law_dip
  have c_law_turned := cal_law_turned (P := P) (w := w) (base := base) T (def_of (He.glo_ok X G (c.t.d.fact 36 (f := .glo "_law_turned") rfl)) (c.t.d.def_ 36 (d := d_law_turned) rfl)) c_law_dip c_law_made
  have c_law_heap := cal_law_heap (P := P) (w := w) (base := base) T (def_of (He.glo_ok X G (c.t.d.fact 38 (f := .glo "_law_heap") rfl)) (c.t.d.def_ 38 (d := d_law_heap) rfl)) c_law_dip c_law_nine c_law_eighteen c_law_all c_law_axes c_law_part c_law_turned
  have c_law_drawn := cal_law_drawn (P := P) (w := w) (base := base) T (def_of (He.glo_ok X G (c.t.d.fact 40 (f := .glo "_law_drawn") rfl)) (c.t.d.def_ 40 (d := d_law_drawn) rfl)) c_law_pick c_law_dip c_law_axes c_law_made
  have c_law_same := cal_law_same (P := P) (w := w) (base := base) T (def_of (He.glo_ok X G (c.t.d.fact 23 (f := .glo "_law_same") rfl)) (c.t.d.def_ 23 (d := d_law_same) rfl)) 
  have c_law_is_ray_right := cal_law_is_ray_right (P := P) (w := w) (base := base) T (def_of (He.glo_ok X G (c.t.d.fact 41 (f := .glo "_law_is_ray_right") rfl)) (c.t.d.def_ 41 (d := d_law_is_ray_right) rfl)) c_law_dot c_law_primes c_law_pick c_law_is_in c_is_in_class c_law_same
  have c_wantR := cal_wantR (P := P) (w := w) (base := base) U D_want
  have c_class_ofR := cal_class_ofR (P := P) (w := w) (base := base) (C := nuC K) T (def_of (He.glo_ok X G (c.t.d.fact 19 (f := .glo "class_of") rfl)) (c.t.d.def_ 19 (d := d_class_of) rfl)) c_wantR
  have c_law_is_lot_right := cal_law_is_lot_right (P := P) (w := w) (base := base) T (defC_of (He.glo_ok X G (c.t.d.fact 42 (f := .glo "_law_is_lot_right") rfl)) (c.t.d.def_ 42 (d := d_law_is_lot_right) rfl)) c_law_primes c_law_dot c_is_class c_class_of c_is_in_class c_law_same U Z (def_of (He.glo_ok X G (c.t.d.fact 39 (f := .glo "_law_heard") rfl)) (c.t.d.def_ 39 (d := d_law_heard) rfl)) c_class_ofR TB
  exact cal_law (P := P) (w := w) (base := base) T (def_of (He.glo_ok X G (c.t.d.fact 43 (f := .glo "law") rfl)) (c.t.d.def_ 43 (d := d_law) rfl)) c_law_spring c_law_drawn c_law_heap c_law_nine c_law_eighteen c_law_is_lot_right c_law_is_ray_right
end
end RM
namespace RM
open PySem PySem.Spec PyProof.Rows L2
theorem run (w : World) : HandSHeadRun.RunEq R (PySem.W.view R.prog [66]) hk ob 12000 loose w := by
  intro os
  kernel_rfl
theorem topSuper : (R.prog.main.scope.names.lookup ("super" : Str)).isSome = false := by kernel_rfl
end RM
namespace RM
open PySem PySem.Spec PyProof.Rows L2
/-- what the law says of a script, behind the top -/
theorem law_walk (w : World) (s₁ : Shared) (mg mb : Str → Option Value) (fa : Addr) (a : Addr) (vs : List Value) (ns : List Int) (K : PySem.W.Frag) (KX : K.In s₁.heap) (c : SaysN R.prog.main.file w s₁.heap K)
    (hns : s₁.heap.Ns mainGlobals mg) (hb : s₁.heap.Ns builtinsNs mb) (hbb : ∀ x : Str, x ≠ "__name__" → mb x = bootBuiltins x) (hlim : s₁.heap.NoLimit) (hg : s₁.gens = #[])
    (hbm : ∃ (bm : Addr) (ob : Obj), mg "__builtins__" = some (.ref bm) ∧ bm ≠ builtinsNs ∧ s₁.heap.get? bm = some ob ∧ ob.cls = .type "module" ∧ ob.dict = some builtinsNs ∧ ob.data = .plain)
    (hmg : mg "law" = some (.ref fa)) (ha : s₁.heap.get? a = some { cls := .type "list", data := .seq vs.toArray }) (hi : IntsAre vs ns) (hl : ns.length ≤ sizeLine) :
    codeAny (model R.prog w) callerA (.call (.ref fa) ⟨[.ref a], []⟩) (fun r s' => r = .ok (.ret (.bool true)) ∧ OldK s₁.heap s'.heap ∧ s'.os = s₁.os ∧ AllBare s'.gens) s₁ :=
  law_end (nm := "law") (x := "_law_script") (k := 20) (sp := spLaw K (He.cT K ("_law_is_lot_right", none)).2) KX hns hb hbb hlim hg c.empty c.out (PySem.W.codeHd_of_K KX c.hd) hbm ha hi hl ⟨rfl, by decide, by decide⟩ hmg
    (fun _ _ _ TB => law_cal KX hns c topSuper TB)
    (fun H hT hS => ⟨a, ns, rfl, hS, fun p hp => by
      obtain rfl := List.mem_singleton.mp hp
      exact LamX.TabS.nil hT, fun _ => rfl⟩)
end RM
open PySem PySem.W PySem.Calls PyProof.Rows
theorem PySem.Challenge.cw_rightmarks_k33_whole_classes_by_lengths_holds : PySem.Challenge.rw_rightmarks_k33_whole_classes_by_lengths.Holds := by
  w_on; o_law
  refine HandSHeadRun.head_any (r := RM.R) (q := view RM.R.prog [66]) (H := RM.hk) (ob := RM.ob) (M := 12000) (loose := RM.loose) (d := HandSHeadRun.topDef RM.R.prog 66) (kwd := []) RM.ob_eq
    (by kernel_rfl) (fun s => by kernel_rfl) RM.run (by kernel_rfl) (by kernel_rfl) (by kernel_rfl) (by rfl) (by first | assumption | decide +kernel) (by decide +kernel) ⟨rfl, rfl, rfl, rfl, rfl, by decide +kernel⟩ ?hw ?hc
  case hw => w_witness2
  case hc =>
    refine Att.attach_callB (l := PySem.Challenge.rw_rightmarks_k33_whole_classes_by_lengths) (n := 63) rfl (by kernel_rfl) fun w s₀ s₁ mg mb fa o pm cd doc a vs ns G Y ho hd hcd hmg hobj hints hlen hbits hg => ?_
    obtain ⟨K, KX, c⟩ := Y
    have hm : mg ("law" : PySem.Str) = some (.ref fa) := by
      have e : (HandSHeadRun.topDef RM.R.prog 66).name = ("law" : PySem.Str) := by kernel_rfl
      rw [← e]
      exact hmg
    exact RM.law_walk w s₁ mg mb fa a vs ns K KX c G.T.g G.T.b G.T.builtins G.T.nolimit hg G.T.bmain hm hobj hints (Nat.le_trans hlen (by decide)) 
