import PyProof.Rows.All
import Wide.All
import OpenK.AllK
import Wide.FinOn
import HandS.Lambda
import HandS.List
import HandS.Iter
import KE.GoesMore
import HandS.Call
import PyProof.ReprRoads
import HandS.Words
import HandS.Evl
import HandS.Conv
import HandS.SortInts
import HandS.Star
import HandS.IsInst
import HandS.Property
import HandS.SetFor
import HandS.Strs
import HandS.EndTab
import PySem.Challenge.RW_restworld_k67_whole_circles_of_two
set_option autoImplicit false
namespace K67
/-- f comes round from s on by p -/
def Per (f : Nat → Bool) (s p : Nat) : Prop := ∀ x, s ≤ x → f (x + p) = f x
structure Frm where
  early : List Nat
  start : Nat
  base : Nat
  rests : List Nat
/-- F is the least form of f -/
structure IsForm (f : Nat → Bool) (F : Frm) : Prop where
  pos : 0 < F.base
  per : Per f F.start F.base
  least : ∀ s p, 0 < p → Per f s p → F.base ≤ p
  low : F.start = 0 ∨ f (F.start - 1) ≠ f (F.start - 1 + F.base)
  earl : F.early = (List.range F.start).filter f
  rst : F.rests = (List.range F.base).filter fun r => f (r + F.base * F.start)
theorem Per.mono {f : Nat → Bool} {s s' p : Nat} (h : Per f s p) (e : s ≤ s') : Per f s' p := fun x hx => h x (Nat.le_trans e hx)
theorem Per.mul {f : Nat → Bool} {s p : Nat} (h : Per f s p) : ∀ k x, s ≤ x → f (x + p * k) = f x
  | 0, x, _ => by rw [Nat.mul_zero, Nat.add_zero]
  | k + 1, x, hx => by
    rw [Nat.mul_succ, ← Nat.add_assoc, h _ (by omega)]
    exact h.mul k x hx
theorem Per.of {f : Nat → Bool} {s s' L p : Nat} (hL : 0 < L) (h : Per f s L) (g : Per f s' p) : Per f s p := fun x hx => by
  have hb : s' ≤ x + L * s' := by
    have h1 : s' ≤ L * s' := Nat.le_mul_of_pos_left s' hL
    omega
  have e1 := h.mul s' x hx
  have e2 := h.mul s' (x + p) (by omega)
  have e3 := g (x + L * s') hb
  rw [← e1, ← e3, ← e2]
  congr 1
  omega
theorem Per.mod {f : Nat → Bool} {s p L : Nat} (h : Per f s p) (g : Per f s L) : Per f s (L % p) := fun x hx => by
  have e := g x hx
  have e2 := h.mul (L / p) (x + L % p) (by omega)
  rw [← e, ← e2]
  congr 1
  have := Nat.mod_add_div L p
  omega
theorem IsForm.start_le {f : Nat → Bool} {F : Frm} (h : IsForm f F) {s L : Nat} (hL : 0 < L) (p : Per f s L) : F.start ≤ s := by
  rcases h.low with e | e
  · omega
  · rcases Nat.lt_or_ge s F.start with q | q
    · have := Per.of hL p h.per
      exact absurd (this (F.start - 1) (by omega)).symm e
    · exact q
theorem IsForm.base_dvd {f : Nat → Bool} {F : Frm} (h : IsForm f F) {s L : Nat} (p : Per f s L) : F.base ∣ L := by
  have h1 : Per f (max s F.start) (L % F.base) := (h.per.mono (Nat.le_max_right _ _)).mod (p.mono (Nat.le_max_left _ _))
  rcases Nat.eq_zero_or_pos (L % F.base) with e | e
  · exact Nat.dvd_of_mod_eq_zero e
  · exact absurd (h.least _ _ e h1) (Nat.not_le_of_lt (Nat.mod_lt _ h.pos))
theorem IsForm.uniq {f : Nat → Bool} {F G : Frm} (h : IsForm f F) (g : IsForm f G) : F = G := by
  have hb : F.base = G.base := Nat.le_antisymm (h.least _ _ g.pos g.per) (g.least _ _ h.pos h.per)
  have hs : F.start = G.start := Nat.le_antisymm (h.start_le g.pos g.per) (g.start_le h.pos h.per)
  obtain ⟨e1, s1, b1, r1⟩ := F
  obtain ⟨e2, s2, b2, r2⟩ := G
  simp only at hb hs
  subst hb hs
  have a1 := h.earl
  have a2 := g.earl
  have c1 := h.rst
  have c2 := g.rst
  simp only at a1 a2 c1 c2
  rw [a1, a2, c1, c2]
/-- what is told of a circle before its least form is known -/
structure Pre (f : Nat → Bool) (early : List Nat) (start base : Nat) (rests : List Nat) : Prop where
  pos : 0 < base
  per : Per f start base
  earl : early = (List.range start).filter f
  rst : rests = (List.range base).filter fun r => f (r + base * start)
theorem IsForm.pre {f : Nat → Bool} {F : Frm} (h : IsForm f F) : Pre f F.early F.start F.base F.rests := ⟨h.pos, h.per, h.earl, h.rst⟩
/-- membership is told by the form -/
theorem Pre.eq {f g : Nat → Bool} {e r : List Nat} {s b : Nat} (h : Pre f e s b r) (k : Pre g e s b r) : f = g := by
  have low : ∀ x, x < s → f x = g x := fun x hx => by
    have h1 : x ∈ e ↔ f x = true := by rw [h.earl]; simp [hx]
    have h2 : x ∈ e ↔ g x = true := by rw [k.earl]; simp [hx]
    have h3 := h1.symm.trans h2
    cases hf : f x <;> cases hg : g x <;> simp [hf, hg] at h3 <;> rfl
  have mid : ∀ x, x < b → f (x + b * s) = g (x + b * s) := fun x hx => by
    have h1 : x ∈ r ↔ f (x + b * s) = true := by rw [h.rst]; simp [hx]
    have h2 : x ∈ r ↔ g (x + b * s) = true := by rw [k.rst]; simp [hx]
    have h3 := h1.symm.trans h2
    cases hf : f (x + b * s) <;> cases hg : g (x + b * s) <;> simp [hf, hg] at h3 <;> rfl
  funext x
  rcases Nat.lt_or_ge x s with hx | hx
  · exact low x hx
  · have key : ∀ q : Nat → Bool, Per q s b → q x = q (x % b + b * s) := fun q hq => by
      have hbs : s ≤ b * s := Nat.le_mul_of_pos_left s h.pos
      have e1 := hq.mul s x hx
      have e2 := hq.mul (x / b) (x % b + b * s) (by omega)
      rw [← e1, ← e2]
      congr 1
      have := Nat.mod_add_div x b
      omega
    rw [key f h.per, key g k.per]
    exact mid _ (Nat.mod_lt _ h.pos)
/-! ### the least base -/
def PerAll (g : Nat → Bool) (p : Nat) : Prop := ∀ x, g (x + p) = g x
theorem PerAll.per {g : Nat → Bool} {p : Nat} (h : PerAll g p) (s : Nat) : Per g s p := fun x _ => h x
theorem PerAll.mul {g : Nat → Bool} {p : Nat} (h : PerAll g p) (k x : Nat) : g (x + p * k) = g x := (h.per 0).mul k x (Nat.zero_le _)
theorem PerAll.mod_ {g : Nat → Bool} {p : Nat} (h : PerAll g p) (x : Nat) : g (x % p) = g x := by
  have e := h.mul (x / p) (x % p)
  rw [← e]
  congr 1
  exact Nat.mod_add_div x p
theorem PerAll.of_dvd {g : Nat → Bool} {p q : Nat} (h : PerAll g p) (d : p ∣ q) : PerAll g q := fun x => by
  obtain ⟨k, rfl⟩ := d
  exact h.mul k x
theorem least_nat {P : Nat → Prop} : ∀ n, P n → ∃ m, P m ∧ ∀ k, P k → m ≤ k := by
  intro n
  induction n using Nat.strongRecOn with
  | _ n ih =>
    intro hn
    by_cases h : ∃ k, k < n ∧ P k
    · obtain ⟨k, hk, pk⟩ := h
      exact ih k hk pk
    · exact ⟨n, hn, fun k pk => Nat.le_of_not_lt fun q => h ⟨k, q, pk⟩⟩
theorem least_per {g : Nat → Bool} {L : Nat} (hL : 0 < L) (h : PerAll g L) : ∃ p, 0 < p ∧ PerAll g p ∧ ∀ q, PerAll g q → p ∣ q := by
  obtain ⟨p, ⟨hp, hg⟩, hm⟩ := least_nat (P := fun p => 0 < p ∧ PerAll g p) L ⟨hL, h⟩
  refine ⟨p, hp, hg, fun q hq => ?_⟩
  have hr : PerAll g (q % p) := fun x => ((hg.per 0).mod (hq.per 0)) x (Nat.zero_le _)
  rcases Nat.eq_zero_or_pos (q % p) with e | e
  · exact Nat.dvd_of_mod_eq_zero e
  · exact absurd (hm _ ⟨e, hr⟩) (Nat.not_le_of_lt (Nat.mod_lt _ hp))
/-- the test of the program: known and less -/
theorem test_iff {g : Nat → Bool} {b less p : Nat} (hb : 0 < b) (h : PerAll g b) (hp : PerAll g p) (hd : ∀ q, PerAll g q → p ∣ q) :
    (∀ n, n < b → g n = true → g ((n + less) % b) = true) ↔ p ∣ less := by
  constructor
  · intro t
    have step : ∀ x, g x = true → g (x + less) = true := fun x hx => by
      have e := t (x % b) (Nat.mod_lt _ hb) (by rw [h.mod_]; exact hx)
      rw [Nat.add_mod, Nat.mod_mod, ← Nat.add_mod, h.mod_] at e
      exact e
    have many : ∀ k x, g x = true → g (x + less * k) = true := by
      intro k
      induction k with
      | zero => intro x hx; exact hx
      | succ k ih =>
        intro x hx
        rw [Nat.mul_succ, ← Nat.add_assoc]
        exact step _ (ih x hx)
    refine hd less fun x => ?_
    cases hx : g x with
    | true => exact step x hx
    | false =>
      cases hy : g (x + less) with
      | false => rfl
      | true =>
        have e := many (b - 1) _ hy
        have e2 : x + less + less * (b - 1) = x + b * less := by
          obtain ⟨c, rfl⟩ : ∃ c, b = c + 1 := ⟨b - 1, by omega⟩
          rw [Nat.add_sub_cancel, Nat.add_mul, Nat.one_mul, Nat.mul_comm c less]
          omega
        rw [e2, h.mul, hx] at e
        cases e
  · intro d n hn hg
    rw [h.mod_, (hp.of_dvd d) n]
    exact hg
/-- the walk over the primes, each as often as it divides: q, and the base at hand -/
def sim (p : Nat) : List Nat → Nat → Bool
  | [], b => b == p
  | q :: qs, b => decide (0 < q) && decide (0 < b / q) && (if p ∣ b / q then sim p qs (b / q) else sim p qs b)
/-- what apart_of gives, by the program's own loops -/
def apIn : Nat → Nat → Nat → Nat → Nat × Nat
  | 0, n, _, o => (n, o)
  | k + 1, n, s, o => if n % s = 0 then apIn k (n / s) s (o + 1) else (n, o)
def apOut : Nat → Nat → Nat → List (Nat × Nat) → List (Nat × Nat)
  | 0, _, _, fd => fd
  | k + 1, n, s, fd =>
    if s * s ≤ n then apOut k (apIn n n s 0).1 (if s = 2 then s + 1 else s + 2) (if (apIn n n s 0).2 > 0 then fd ++ [(s, (apIn n n s 0).2)] else fd)
    else if n > 1 then fd ++ [(n, 1)] else fd
def ap (n : Nat) : List (Nat × Nat) := apOut 10 n 2 []
def flat : List (Nat × Nat) → List Nat
  | [] => []
  | (q, o) :: r => List.replicate o q ++ flat r
theorem sim_ok : ∀ n, n < 31 → ∀ p, p < 31 → 0 < n → 0 < p → p ∣ n → sim p (flat (ap n)) n = true := by decide +kernel
theorem ap_ok : ∀ n, n < 31 → ∀ q ∈ ap n, q.1 ≤ 30 ∧ q.2 ≤ 30 ∧ 0 < q.1 := by decide +kernel
theorem ap_len : ∀ n, n < 31 → (ap n).length ≤ 30 := by decide +kernel
end K67
set_option autoImplicit false
set_option linter.all false
namespace K67
/-! ### lists -/
theorem strict_eq : ∀ {l m : List Int}, l.Pairwise (· < ·) → m.Pairwise (· < ·) → (∀ z, z ∈ l ↔ z ∈ m) → l = m
  | [], [], _, _, _ => rfl
  | [], b :: m, _, _, h => absurd ((h b).mpr List.mem_cons_self) (by simp)
  | a :: l, [], _, _, h => absurd ((h a).mp List.mem_cons_self) (by simp)
  | a :: l, b :: m, h1, h2, h => by
    rw [List.pairwise_cons] at h1 h2
    have e : a = b := by
      have ha := (h a).mp List.mem_cons_self
      have hb := (h b).mpr List.mem_cons_self
      rcases List.mem_cons.mp ha with e | e
      · exact e
      · rcases List.mem_cons.mp hb with e' | e'
        · exact e'.symm
        · have := h1.1 b e'
          have := h2.1 a e
          omega
    subst e
    have : l = m := strict_eq h1.2 h2.2 fun z => by
      have hz := h z
      constructor
      · intro q
        rcases List.mem_cons.mp (hz.mp (List.mem_cons_of_mem _ q)) with e | e
        · have := h1.1 z q
          omega
        · exact e
      · intro q
        rcases List.mem_cons.mp (hz.mpr (List.mem_cons_of_mem _ q)) with e | e
        · have := h2.1 z q
          omega
        · exact e
    rw [this]
def zs (l : List Nat) : List Int := l.map fun (n : Nat) => (n : Int)
theorem mem_zs {l : List Nat} {z : Int} : z ∈ zs l ↔ ∃ n, n ∈ l ∧ z = (n : Int) := by
  unfold zs
  rw [List.mem_map]
  constructor
  · rintro ⟨n, h, e⟩
    exact ⟨n, h, e.symm⟩
  · rintro ⟨n, h, e⟩
    exact ⟨n, h, e.symm⟩
theorem range_strict (n : Nat) (f : Nat → Bool) : ((List.range n).filter f).Pairwise (· < ·) := List.Pairwise.filter _ List.pairwise_lt_range
theorem zs_strict {l : List Nat} (h : l.Pairwise (· < ·)) : (zs l).Pairwise (· < ·) := by
  unfold zs
  rw [List.pairwise_map]
  exact h.imp fun q => by omega
/-- a sorted arrangement of different numbers is THE ascending list of them -/
theorem sorted_is {l : List Nat} {ns : List Int} {m : List Nat} (hn : l.Nodup) (hp : ns.Perm (zs l)) (hs : ns.Pairwise (· ≤ ·)) (hm : m.Pairwise (· < ·)) (hmem : ∀ n, n ∈ l ↔ n ∈ m) : ns = zs m := by
  have hd : ns.Nodup := by
    refine hp.nodup_iff.mpr ?_
    unfold zs
    rw [List.nodup_iff_pairwise_ne] at hn ⊢
    rw [List.pairwise_map]
    exact hn.imp fun q => by omega
  have hlt : ns.Pairwise (· < ·) := by
    rw [List.nodup_iff_pairwise_ne] at hd
    exact (hs.and hd).imp fun q => by omega
  refine strict_eq hlt (zs_strict hm) fun z => ?_
  rw [hp.mem_iff, mem_zs, mem_zs]
  constructor
  · rintro ⟨n, h, e⟩
    exact ⟨n, (hmem n).mp h, e⟩
  · rintro ⟨n, h, e⟩
    exact ⟨n, (hmem n).mpr h, e⟩
/-- the rests that a round leaves, as the program gathers them -/
def gath (f : Nat → Bool) (s p : Nat) : List Nat := ((List.range p).filter fun i => f (s + i)).map fun i => (s + i) % p
theorem mod_inj {s p i j : Nat} (hi : i < p) (hj : j < p) (h : (s + i) % p = (s + j) % p) : i = j := by
  have h1 := Nat.mod_add_div (s + i) p
  have h2 := Nat.mod_add_div (s + j) p
  rcases Nat.lt_trichotomy ((s + i) / p) ((s + j) / p) with q | q | q
  · have : p * ((s + i) / p) + p ≤ p * ((s + j) / p) := by
      rw [← Nat.mul_succ]
      exact Nat.mul_le_mul_left p q
    omega
  · rw [q] at h1
    omega
  · have : p * ((s + j) / p) + p ≤ p * ((s + i) / p) := by
      rw [← Nat.mul_succ]
      exact Nat.mul_le_mul_left p q
    omega
theorem gath_nodup (f : Nat → Bool) (s p : Nat) : (gath f s p).Nodup := by
  unfold gath
  rw [List.nodup_iff_pairwise_ne, List.pairwise_map]
  have h : ((List.range p).filter fun i => f (s + i)).Pairwise (· < ·) := range_strict _ _
  refine List.Pairwise.imp_of_mem (fun {a b} ha hb q e => ?_) h
  have h1 : a < p := List.mem_range.mp (List.mem_filter.mp ha).1
  have h2 : b < p := List.mem_range.mp (List.mem_filter.mp hb).1
  have := mod_inj h1 h2 e
  omega
theorem per_res {f : Nat → Bool} {s p : Nat} (h : Per f s p) (hp : 0 < p) {x y : Nat} (hx : s ≤ x) (hy : s ≤ y) (e : x % p = y % p) : f x = f y := by
  have h1 := Nat.mod_add_div x p
  have h2 := Nat.mod_add_div y p
  have a := h.mul (y / p) x hx
  have b := h.mul (x / p) y hy
  rw [← a, ← b]
  congr 1
  omega
theorem gath_mem {f : Nat → Bool} {s p : Nat} (h : Per f s p) (hp : 0 < p) (n : Nat) : n ∈ gath f s p ↔ n ∈ (List.range p).filter fun r => f (r + p * s) := by
  have hbs : s ≤ p * s := Nat.le_mul_of_pos_left s hp
  unfold gath
  rw [List.mem_map, List.mem_filter, List.mem_range]
  constructor
  · rintro ⟨i, hi, rfl⟩
    obtain ⟨h1, h2⟩ := List.mem_filter.mp hi
    refine ⟨Nat.mod_lt _ hp, ?_⟩
    have h2 : f (s + i) = true := h2
    have e := per_res h hp (x := (s + i) % p + p * s) (y := s + i) (by omega) (by omega) (by rw [Nat.add_mul_mod_self_left, Nat.mod_mod])
    show f _ = true
    rw [e]
    exact h2
  · rintro ⟨hn, hf⟩
    have hf : f (n + p * s) = true := hf
    have h3 := Nat.mod_add_div s p
    refine ⟨(n + (p - s % p)) % p, List.mem_filter.mpr ⟨List.mem_range.mpr (Nat.mod_lt _ hp), ?_⟩, ?_⟩
    · have e : (s + (n + (p - s % p)) % p) % p = n := by
        rw [Nat.add_mod_mod]
        have : s + (n + (p - s % p)) = n + p * (s / p + 1) := by
          have := Nat.mod_lt s hp
          rw [Nat.mul_succ]
          omega
        rw [this, Nat.add_mul_mod_self_left]
        exact Nat.mod_eq_of_lt hn
      have e2 := per_res h hp (x := s + (n + (p - s % p)) % p) (y := n + p * s) (by omega) (by omega) (by rw [e, Nat.add_mul_mod_self_left]; exact (Nat.mod_eq_of_lt hn).symm)
      show f _ = true
      rw [e2]
      exact hf
    · show (s + (n + (p - s % p)) % p) % p = n
      rw [Nat.add_mod_mod]
      have : s + (n + (p - s % p)) = n + p * (s / p + 1) := by
        have := Nat.mod_lt s hp
        rw [Nat.mul_succ]
        omega
      rw [this, Nat.add_mul_mod_self_left]
      exact Nat.mod_eq_of_lt hn
/-! ### the law's own form -/
def down (f : Nat → Bool) (p : Nat) : Nat → Nat
  | 0 => 0
  | b + 1 => if f b == f (b + p) then down f p b else b + 1
theorem down_le (f : Nat → Bool) (p : Nat) : ∀ b, down f p b ≤ b
  | 0 => Nat.le_refl _
  | b + 1 => by
    unfold down
    split
    · exact Nat.le_trans (down_le f p b) (Nat.le_succ b)
    · exact Nat.le_refl _
theorem down_per (f : Nat → Bool) (p : Nat) : ∀ b x, down f p b ≤ x → x < b → f (x + p) = f x
  | 0, x, _, h => absurd h (Nat.not_lt_zero x)
  | b + 1, x, h1, h2 => by
    unfold down at h1
    split at h1
    · rename_i e
      rcases Nat.lt_or_ge x b with q | q
      · exact down_per f p b x h1 q
      · have : x = b := by omega
        subst this
        exact (beq_iff_eq.mp e).symm
    · omega
theorem down_low (f : Nat → Bool) (p : Nat) : ∀ b, down f p b = 0 ∨ f (down f p b - 1) ≠ f (down f p b - 1 + p)
  | 0 => .inl rfl
  | b + 1 => by
    unfold down
    split
    · exact down_low f p b
    · rename_i e
      exact .inr fun q => e (beq_iff_eq.mpr q)
/-- a round of the whole goes down to its start -/
theorem down_of {f : Nat → Bool} {s p : Nat} (h : Per f s p) (b : Nat) : down f p b ≤ s := by
  rcases down_low f p b with e | e
  · omega
  · rcases Nat.lt_or_ge s (down f p b) with q | q
    · exact absurd (h (down f p b - 1) (by omega)).symm e
    · exact q
theorem form_ok {f : Nat → Bool} {L p : Nat} (hL : 0 < L) (hL2 : L ≤ 30) (h : Per f 6 L) (hp : 0 < p) (hp2 : p < 43) (hno : ∀ q, 0 < q → q < p → 43 < down f q (130 - q)) (hy : down f p (130 - p) ≤ 43) :
    IsForm f ⟨(List.range (down f p (130 - p))).filter f, down f p (130 - p), p, (List.range p).filter fun r => f (r + p * down f p (130 - p))⟩ where
  pos := hp
  per := fun x hx => by
    have hx : down f p (130 - p) ≤ x := hx
    show f (x + p) = f x
    rcases Nat.lt_or_ge x (130 - p) with q | q
    · exact down_per f p _ x hx q
    · have hm : (x - 43) % L < L := Nat.mod_lt _ hL
      have hx2 : x = 43 + (x - 43) % L + L * ((x - 43) / L) := by
        have := Nat.mod_add_div (x - 43) L
        omega
      generalize (x - 43) % L = m at hm hx2
      generalize (x - 43) / L = r at hx2
      have e1 : f x = f (43 + m) := by
        rw [hx2]
        exact h.mul r _ (by omega)
      have e2 : f (x + p) = f (43 + m + p) := by
        rw [show x + p = 43 + m + p + L * r by omega]
        exact h.mul r _ (by omega)
      rw [e1, e2]
      exact down_per f p (130 - p) _ (by omega) (by omega)
  least := fun s q hq g => by
    have g' : Per f 6 q := Per.of hL h g
    rcases Nat.lt_or_ge q p with e | e
    · have := hno q hq e
      have := down_of g' (130 - q)
      omega
    · exact e
  low := down_low f p _
  earl := rfl
  rst := rfl
theorem form_ex {f : Nat → Bool} {L : Nat} (hL : 0 < L) (hL2 : L ≤ 30) (h : Per f 6 L) (hno : ∀ q, 0 < q → q < 43 → 43 < down f q (130 - q)) : False := by
  have := hno L hL (by omega)
  have := down_of h (130 - L)
  omega
/-! ### the program's own least form -/
theorem filter_succ (f : Nat → Bool) (s : Nat) : (List.range (s + 1)).filter f = (List.range s).filter f ++ if f s then [s] else [] := by
  rw [List.range_succ, List.filter_append]
  congr 1
  cases h : f s <;> simp [h]
/-- g goes on as f does behind its start -/
theorem tail_all {f : Nat → Bool} {s b : Nat} (h : Per f s b) (hb : 0 < b) : PerAll (fun r => f (r + b * s)) b := fun x => by
  have hbs : s ≤ b * s := Nat.le_mul_of_pos_left s hb
  show f (x + b + b * s) = f (x + b * s)
  rw [← h (x + b * s) (by omega)]
  congr 1
  omega
theorem tail_eq {f : Nat → Bool} {s b : Nat} (h : Per f s b) (x : Nat) (hx : s ≤ x) : f (x + b * s) = f x := h.mul s x hx
/-- from the least base p of the tail g and the least start -/
theorem least_form {f : Nat → Bool} {g : Nat → Bool} {s p : Nat} (hp : 0 < p) (hg : PerAll g p) (hd : ∀ q, PerAll g q → p ∣ q) (he : ∀ x, s ≤ x → f x = g x) (hl : s = 0 ∨ f (s - 1) ≠ g (s - 1)) :
    IsForm f ⟨(List.range s).filter f, s, p, (List.range p).filter fun r => g r⟩ where
  pos := hp
  per := fun x hx => by
    have hx : s ≤ x := hx
    show f (x + p) = f x
    rw [he _ (by omega), he _ hx]
    exact hg x
  least := fun s' q hq h => by
    show p ≤ q
    refine Nat.le_of_dvd hq (hd q fun x => ?_)
    have hbig : s + s' ≤ p * (s + s') := Nat.le_mul_of_pos_left _ hp
    have e1 := hg.mul (s + s') (x + q)
    have e2 := hg.mul (s + s') x
    rw [← e1, ← e2, ← he _ (by omega), ← he _ (by omega), ← h (x + p * (s + s')) (by omega)]
    congr 1
    omega
  low := by
    show s = 0 ∨ f (s - 1) ≠ f (s - 1 + p)
    rcases hl with e | e
    · exact .inl e
    · rcases Nat.eq_zero_or_pos s with z | z
      · exact .inl z
      · refine .inr ?_
        rw [he (s - 1 + p) (by omega), hg]
        exact e
  earl := rfl
  rst := by
    show (List.range p).filter (fun r => g r) = (List.range p).filter fun r => f (r + p * s)
    congr 1
    funext r
    have : s ≤ p * s := Nat.le_mul_of_pos_left s hp
    show g r = f (r + p * s)
    rw [he _ (by omega)]
    exact (hg.mul s r).symm
/-- nothing at all -/
theorem form_none : IsForm (fun _ => false) ⟨[], 0, 1, []⟩ := ⟨by decide, fun _ _ => rfl, fun _ _ h _ => h, .inl rfl, rfl, rfl⟩
/-- what two of them show up to a common round is all -/
theorem per_bound {f : Nat → Bool} {s L m : Nat} (h : Per f s L) (hL : 0 < L) (hm : s + L ≤ m) {x : Nat} (hx : f x = true) : ∃ y, y < m ∧ f y = true := by
  rcases Nat.lt_or_ge x s with q | q
  · exact ⟨x, by omega, hx⟩
  · refine ⟨s + (x - s) % L, by have := Nat.mod_lt (x - s) hL; omega, ?_⟩
    have e := per_res h hL (x := s + (x - s) % L) (y := x) (by omega) q (by
      have := Nat.mod_add_div (x - s) L
      have e : x = s + (x - s) % L + L * ((x - s) / L) := by omega
      conv => rhs; rw [e]
      rw [Nat.add_mul_mod_self_left])
    rw [e]
    exact hx
theorem Per.map2 {f g : Nat → Bool} {s L : Nat} (t : Bool → Bool → Bool) (h : Per f s L) (k : Per g s L) : Per (fun x => t (f x) (g x)) s L := fun x hx => by
  show t (f (x + L)) (g (x + L)) = t (f x) (g x)
  rw [h x hx, k x hx]
end K67
set_option Elab.async false
set_option linter.all false
set_option maxRecDepth 100000
set_option maxHeartbeats 4000000
namespace K67R
open PySem PySem.Spec PyProof.Rows L2 LamX
/-- the function object at f of a lambda that captures nothing; its code object is at c -/
def LamO (f c : Addr) (q : Str) (params : Arguments) (body : Expr) (scope : Scope) : HO :=
  .ext fun h => ∃ pm ctv, h.get? f = some (PySem.W.kla_obj "<lambda>" q params body scope [] pm c ctv)
theorem cloFrom_nil {cells : List (Str × Addr)} {names : List (Str × NameKind)} (hn : ∀ y ∈ names, y.2 ≠ .free) : cloFrom cells names [] = [] := by
  cases e : cloFrom cells names [] with
  | nil => rfl
  | cons p r =>
    have hm : (p.1, p.2) ∈ cloFrom cells names [] := by
      rw [e]
      exact List.mem_cons_self
    rcases cloFrom_mem hm with q | ⟨q, _⟩
    · cases q
    · exact absurd rfl (hn _ q)
/-- what the making of such a lambda gives -/
def tLamN (T : List (Addr × Str)) (q : Str) (params : Arguments) (body : Expr) (scope : Scope) : TE := fun _ H Q =>
  Tabs T H ∧ ∀ f c H1, ExtN H H1 → Tabs T H1 → H f = none → H1 f = some (LamO f c q params body scope) → H1 c = some (CodeO c q) → Q (.ref f) H1
section
variable {X : Cx}
theorem lam_new {T : List (Addr × Str)} {c P : Addr} {params : Arguments} {body : Expr} {scope : Scope} {pos : Pos} (TB : TabB X.base X.mg c P) (hcode : X.env.code = .ref c)
    (hm : (P, X.env.qual ++ "<lambda>") ∈ T) (hu : ∀ p ∈ T, p.1 = P → p.2 = X.env.qual ++ "<lambda>") (hdef : defaultsOf params X.env = ([], [])) (hn : ∀ y ∈ scope.names, y.2 ≠ .free) :
    PE X (.Lambda params body scope pos) (tLamN T (X.env.qual ++ "<lambda>") params body scope) := by
  refine ⟨fun pins s σ H Q I h => ?_⟩
  obtain ⟨hT, h⟩ := h
  obtain ⟨ps, hP, ht, ha⟩ := hT _ hm
  have hcl : closureFor scope X.env = pure [] := by
    have e := closure_ok (scope := scope) (env := X.env) fun y hy e => absurd e (hn y hy)
    rw [cloFrom_nil hn] at e
    exact e
  have bP : s.heap.BuiltinsAt X.mg P := TB.bm.keeps I.bk
  have hP' : s.heap.get? P = some { cls := .none, data := .fields ps } := I.hok P _ hP
  have glob : s.heap.Ns mainGlobals X.mg := I.mod.glob.keeps I.bk
  have fin : ∀ (H1 : Hp) (h' : Heap) (tk : Nat) (c' : Addr) (pm ctv : Value), Inv X pins σ H1 { s with heap := h', toks := tk } → ExtN H H1 → Tabs T H1 → s.heap.objs.size ≤ h'.objs.size → H1 c' = some (CodeO c' (X.env.qual ++ "<lambda>")) →
      EP X pins σ Q (.ref h'.objs.size) { s with heap := h'.push (PySem.W.kla_obj "<lambda>" (X.env.qual ++ "<lambda>") params body scope [] pm c' ctv), toks := tk } := by
    intro H1 h' tk c' pm ctv I1 e1 t1 hsz hc'
    have nf : H1 h'.objs.size = none := I1.hok.fresh (Nat.le_refl _)
    have I2 : Inv X pins σ (upd H1 h'.objs.size (LamO h'.objs.size c' (X.env.qual ++ "<lambda>") params body scope)) { s with heap := h'.push (PySem.W.kla_obj "<lambda>" (X.env.qual ++ "<lambda>") params body scope [] pm c' ctv), toks := tk } := by
      refine I1.laid (t' := tk) (fun b u e => Heap.get?_push_of_some _ e) (Nat.le_refl _) ?_
      exact ⟨⟨pm, ctv, Heap.get?_push_size _ rfl⟩, ⟨_, Heap.get?_push_size _ rfl⟩, fun h1 h2 ⟨pm, ctv, e⟩ st => ⟨pm, ctv, st _ e⟩⟩
    have ex : ∀ b o, H1 b = some o → upd H1 h'.objs.size (LamO h'.objs.size c' (X.env.qual ++ "<lambda>") params body scope) b = some o := fun b o e => by
      rw [upd_ne (ne_of_none e nf)]
      exact e
    exact ⟨.ref h'.objs.size, _, I2, rfl, h _ c' _ (e1.trans (.of ex)) (t1.ext ex) (I.hok.fresh hsz) upd_same (ex _ _ hc')⟩
  refine PySem.W.kla_eval hdef ?_
  cases hc : codeAmong pos ps.toList with
  | none =>
    refine PySem.W.kla_makeFunction (mg := X.mg) (c := c) (P := P) (ps := ps) hcl I.ok.glob glob hcode (TB.code.keeps I.bk) hP' ht hc TB.gP bP fun c' ctv h' tk hx hge hlt hrec htb => ?_
    obtain ⟨c2, oc, vs, t, e2, hoc, hd, hv⟩ := hrec
    cases e2
    have nC : H c' = none := I.hok.fresh hge
    have I1 := inv_table (t' := tk) (more := #[rawInt pos.line, rawInt pos.col, .ref c']) (h' := h') I hP hx htb hge ⟨oc, vs, t, hoc, hd, hv⟩
    have hE : ExtN H (upd (upd H P (.tbl (ps ++ #[rawInt pos.line, rawInt pos.col, .ref c']))) c' (CodeO c' (X.env.qual ++ "<lambda>"))) := fun b o e n => by
      have n1 : b ≠ P := fun z => by
        rw [z, hP] at e
        exact n ps (Option.some.inj e).symm
      rw [upd_ne (ne_of_none e nC), upd_ne n1]
      exact e
    have eL : (ps ++ #[rawInt pos.line, rawInt pos.col, .ref c']).toList = ps.toList ++ [rawInt pos.line, rawInt pos.col, .ref c'] := by simp
    refine fin _ h' tk c' _ ctv I1 hE (fun p hp => ?_) (Nat.le_trans hge (Nat.le_of_lt hlt)) upd_same
    by_cases hb : p.1 = P
    · rw [hu p hp hb, hb]
      refine ⟨_, (upd_ne (ne_of_none hP nC)).trans upd_same, ?_, fun p' cv hcv => ?_⟩
      · rw [eL]
        exact PySem.TriplesOk_snoc _ _ _ _ ht
      · rw [eL] at hcv
        rcases among_app _ ht hcv with z | z
        · obtain ⟨c0, e1, e2⟩ := ha p' cv z
          exact ⟨c0, e1, hE _ _ e2 codeO_ne⟩
        · exact ⟨c', z, upd_same⟩
    · obtain ⟨ps', a1, a2, a3⟩ := hT p hp
      refine ⟨ps', ((upd_ne (ne_of_none a1 nC)).trans (upd_ne hb)).trans a1, a2, fun p' cv hcv => ?_⟩
      obtain ⟨c0, e1, e2⟩ := a3 p' cv hcv
      exact ⟨c0, e1, hE _ _ e2 codeO_ne⟩
  | some cv =>
    obtain ⟨c', e, hco⟩ := ha pos cv hc
    subst e
    refine PySem.W.kla_makeFunctionHit (mg := X.mg) (c := c) (P := P) (ps := ps) hcl I.ok.glob glob hcode (TB.code.keeps I.bk) hP' ht hc bP fun ctv h' tk hx hsz => ?_
    exact fin H h' tk c' _ ctv (I.kept (t' := tk) hx) (ExtN.refl H) hT hsz hco
end
/-- a call of such a lambda -/
theorem lam_run {P : Program} {w : World} {K : PySem.W.Frag} {mg : Str → Option Value} {base : Heap} {k : Nat} {f c : Addr} {q : Str} {params : Arguments} {body : Expr} {scope : Scope} {pm ctv : Value} {N ps : List Str}
    (S : FnScope N ps scope) {A : Around} {outer : List Env} {s : Shared} {H : Hp} {args : Args} {us : List Value} {vs : List V} {Q : VK}
    (ho : s.heap.get? f = some (PySem.W.kla_obj "<lambda>" q params body scope [] pm c ctv)) (hc : s.heap.CodeRec (.ref c) q) (hr : Room (k + 1) A) (e0 : Env0 P w K mg base A outer s H)
    (hb : bindArgs (PySem.W.kla_fn "<lambda>" q params body scope [] pm (.ref c) ctv) args = pure (ps.zip us)) (r : Vals vs us) (hl : vs.length = ps.length) {CX : CXT} {E : XK}
    (hbody : Room k (A.deeper (envOfC q scope s.heap.objs.size f (.ref c))) → ∃ t, PE (cxOf CX P w K mg base N q scope f (.ref c) A outer s H E) body t ∧ t (start N vs) H Q) :
    codeAny (model P w) A (.call (.ref f) args) (CR CX outer P w H s Q E) s := by
  have lim : s.heap.NoLimit := e0.mod.nolimit.keeps fun b o e => (e0.bs b o e).1
  have hkind : ∀ y ∈ ps.zip us, scope.names.lookup y.1 = some .local ∨ (scope.names.lookup y.1 = some .cell ∧ ((cellsFrom (s.heap.objs.size + 1) scope.names []).lookup y.1).isSome = true) := fun ⟨n, v⟩ hy =>
    (S.par n (List.of_mem_zip hy).1).elim .inl fun z => .inr ⟨z, PySem.W.cellsFrom_some _ _ _ (.inl z)⟩
  refine PySem.W.kla_callFunE hr.depth ho rfl S.co S.gen rfl hc ?_
  rw [hb]
  refine wpAny_pure (wpAny_newFunctionEnv_cells S.kind hkind fun env he s1 x => ?_)
  subst he
  refine ⟨lim.keeps x.toInCall.keep, ?_⟩
  obtain ⟨t, ht, hq⟩ := hbody (hr.deeper _)
  have I : Inv (cxOf CX P w K mg base N q scope f (.ref c) A outer s H E) [] (start N vs) H s1 := inv_start S hr.hd e0 hl r x
  refine PySem.W.kla_codeExpr (wpAny_mono (ht.run [] s1 (start N vs) H _ I hq) (fun u s' z => ?_) fun e s' z => z)
  obtain ⟨v, H', J, rv, z⟩ := z
  exact ⟨v, H', J.os, J.bare, J.base, J.hok, rv, z⟩
/-- the lambda at f tells t of two truth values -/
def IsLam (P : Program) (w : World) (K : PySem.W.Frag) (mg : Str → Option Value) (base : Heap) (t : Bool → Bool → Bool) (f : Addr) (H : Hp) : Prop :=
  ∃ (c : Addr) (q : Str) (params : Arguments) (body : Expr) (scope : Scope), H f = some (LamO f c q params body scope) ∧ H c = some (CodeO c q) ∧ FnScope ["here", "there"] ["here", "there"] scope ∧
    (∀ (pm ctv : Value) (a b : Value), bindArgs (PySem.W.kla_fn "<lambda>" q params body scope [] pm (.ref c) ctv) ⟨[a, b], []⟩ = pure ((["here", "there"] : List Str).zip [a, b])) ∧
    ∀ (A : Around) (outer : List Env) (s : Shared) (H : Hp) (CX : CXT) (E : XK), ∃ tb, PE (cxOf CX P w K mg base ["here", "there"] q scope f (.ref c) A outer s H E) body tb ∧ ∀ (x y : Bool) (H : Hp) (Q : VK), Q (.bl (t x y)) H → tb [some (.bl x), some (.bl y)] H Q
theorem IsLam.keep {P : Program} {w : World} {K : PySem.W.Frag} {mg : Str → Option Value} {base : Heap} {t : Bool → Bool → Bool} {f : Addr} {H H' : Hp} (l : IsLam P w K mg base t f H) (e : ∀ b o, H b = some o → (∀ ps, o ≠ .tbl ps) → H' b = some o) : IsLam P w K mg base t f H' := by
  obtain ⟨c, q, params, body, scope, h1, h2, r⟩ := l
  exact ⟨c, q, params, body, scope, e _ _ h1 (fun ps z => by cases z), e _ _ h2 codeO_ne, r⟩
/-- told(e1, e2), told a name that holds such a lambda -/
def tLamC (P : Program) (w : World) (K : PySem.W.Frag) (mg : Str → Option Value) (base : Heap) (i : Nat) (t1 : TA) : TE := fun σ H Q => ∃ f t, σ[i]? = some (some (.ref f)) ∧ IsLam P w K mg base t f H ∧
  t1 σ H fun vs H1 => IsLam P w K mg base t f H1 ∧ ∃ a b, vs = [.bl a, .bl b] ∧ Q (.bl (t a b)) H1
theorem lam_at {X : Cx} {pins : List (Addr × Obj)} {σ : L2.St} {H : Hp} {s : Shared} {f c : Addr} {q : Str} {params : Arguments} {body : Expr} {scope : Scope} (I : Inv X pins σ H s) (h : H f = some (LamO f c q params body scope)) :
    ∃ pm ctv, s.heap.get? f = some (PySem.W.kla_obj "<lambda>" q params body scope [] pm c ctv) := (I.hok f _ h).1
theorem pe_lamC {X : Cx} {i : Nat} {x : Str} {p pos : Pos} {e1 e2 : Expr} {t1 : TA} (hr : Room 1 X.A) (hN : X.N[i]? = some x) (hv : Vis X.env.scope x) (ha : PA X [e1, e2] t1)
    (hdb : (x == ("__debug__" : Str)) = false := by decide) (hcd : (x == ("__classdict__" : Str)) = false := by decide)
    (he : starEach [e1, e2] X.env = (false, eval e1 X.env) :: starEach [e2] X.env := by rfl) (hpl : (backTo pos (starEach [e2] X.env)).any (·.1) = false := by rfl) :
    PE X (.Call (.Name x p) [e1, e2] [] pos) (tLamC X.prog X.w X.K X.mg X.base i t1) := by
  refine ⟨fun pins s σ H Q I h => ?_⟩
  obtain ⟨f, t, hs, hl, h⟩ := h
  refine wpAny_Call_Name_kw (thn ((pe_var (pos := p) hN hv hdb hcd).run pins s σ H (fun v H1 => v = .ref f ∧ H1 = H) I ⟨.ref f, hs, rfl, rfl⟩) fun u s1 ⟨v, H1, I1, r1, z1, z2⟩ => ?_)
  subst z1
  rw [z2] at I1
  obtain rfl : u = Value.ref f := r1
  have fnAt : ∀ {H2 : Hp} {s2 : Shared}, Inv X pins σ H2 s2 → IsLam X.prog X.w X.K X.mg X.base t f H2 → PySem.W.FnAt f s2.heap := fun {H2 s2} I2 l => by
    obtain ⟨c, q, params, body, scope, l1, _⟩ := l
    obtain ⟨pm, ctv, e⟩ := lam_at I2 l1
    exact ⟨_, _, _, _, e⟩
  refine PySem.W.callWith_F (fnAt I1 hl) (thn (ha.run pos pins s1 σ H _ I1 h) fun us s2 ⟨vs, H2, I2, r, hl2, a, b, ev, z⟩ => ⟨fnAt I2 hl2, ?_⟩) he hpl
  subst ev
  obtain ⟨u1, u2, rfl, ra, rb⟩ : ∃ u1 u2, us = [u1, u2] ∧ RelV (.bl a) u1 ∧ RelV (.bl b) u2 := by
    cases r with
    | cons p q =>
      cases q with
      | cons p' q' =>
        cases q'
        exact ⟨_, _, rfl, p, p'⟩
  obtain ⟨c, q, params, body, scope, l1, l2, S, hbind, hbody⟩ := hl2
  obtain ⟨pm, ctv, ef⟩ := lam_at I2 l1
  have hcr : s2.heap.CodeRec (.ref c) q := by
    obtain ⟨⟨oc, vs', t', g1, g2, g3⟩, _⟩ := I2.hok c _ l2
    exact ⟨c, oc, vs', t', rfl, g1, g2, g3⟩
  have run : codeAny (model X.prog X.w) X.A (.call (.ref f) ⟨[u1, u2], []⟩) (CR C8.CX0 X.stack X.prog X.w H2 s2 Q C8.E0) s2 := by
    refine lam_run (k := 0) S ef hcr hr I2.env0 (hbind pm ctv u1 u2) (.cons ra (.cons rb .nil)) rfl fun _ => ?_
    obtain ⟨tb, hp, hq⟩ := hbody X.A X.stack s2 H2 C8.CX0 C8.E0
    exact ⟨tb, hp, hq a b H2 Q z⟩
  refine wpAny_call (codeAny_mono run fun r s3 hq => ?_)
  cases r with
  | error e => exact (show False from hq).elim
  | ok fl =>
    cases fl with
    | ret u => exact I2.after hq
    | next => exact False.elim hq
    | brk => exact False.elim hq
    | cont => exact False.elim hq
end K67R
set_option Elab.async false
set_option linter.all false
set_option maxRecDepth 100000
set_option maxHeartbeats 4000000
namespace K67R
open PySem PySem.Spec PyProof.Rows L2
/-- a class with an __eq__ of its own (the def at f) and object's __ne__ -/
structure EqF (K : PySem.W.Frag) (C f : Addr) : Prop where
  eq : PySem.W.findIn K (.ref C) "__eq__" = some (some (.ref f))
  fn : PySem.W.isFn K (.ref f) = true
  ne : PySem.W.findIn K (.ref C) "__ne__" = some (some (.builtin "object.__ne__"))
  mro : PySem.W.mroIn K C (.type "object") = some true
/-- two instances of the class at C, and what their own == is asked -/
def rOwn (C : Addr) (sp : Sp) (E : XK) (neg : Bool) : R2 := fun x y H Q => ∃ a b dx dy fs gs, x = .ref a ∧ y = .ref b ∧ H a = some (.ins C dx fs) ∧ H b = some (.ins C dy gs) ∧
  sp [.ref a, .ref b] H (fun v H' => ∃ r, v = .bl r ∧ Q (.bl (if neg then !r else r)) H') E
section
variable {X : Cx} {CX : CXT} {C f : Addr} {fd : FuncData} {ps : List Str} {sp : Sp} {k : Nat} {E : XK}
theorem inst_at {pins : List (Addr × Obj)} {σ : L2.St} {H : Hp} {s : Shared} {a dx : Addr} {fs : List (Str × V)} (I : Inv X pins σ H s) (h : H a = some (.ins C dx fs)) : ∃ ox od, PySem.W.InstAt s.heap a ox C od := by
  obtain ⟨mA, J, _⟩ := ins_get I.hok h
  obtain ⟨od, J, _⟩ := J.look
  exact ⟨_, _, J⟩
theorem op_eqOwn (F : FnOk X.prog X.w X.K X.mg X.base CX k f fd ps sp) (e : EqF X.K C f) (hr : Room k X.A) (hb : Binds X.K fd ps []) (hx : Passes CX X E) : OpR X (compareOp .Eq) (rOwn C sp E false) := by
  intro pins s σ H x y v u Q I rx ry h
  obtain ⟨a, b, dx, dy, fs, gs, rfl, rfl, ha, hb', q⟩ := h
  cases rx
  cases ry
  obtain ⟨ox, od, J⟩ := inst_at I ha
  obtain ⟨oy, oe, J'⟩ := inst_at I hb'
  obtain ⟨m, hF⟩ := I.fr
  show wpAny (model X.prog X.w) X.A (richCompare .Eq (.ref a) (.ref b)) (EP X pins σ Q) X.xe s
  refine PySem.W.cmp_K (op := .Eq) (tb := .ref C) hr.units0 hF I.ok.mod.kin J J'.type (by simp [PySem.W.notFirst]) e.eq e.fn ?_
  refine thn (run_fn (us := [.ref a, .ref b]) (vs := [.ref a, .ref b]) F hr hb .nil hx I (.cons rfl (.cons rfl .nil)) q) fun w s1 ⟨z, H1, I1, rz, r, ez, q1⟩ => ?_
  subst ez
  cases rz
  exact ⟨.bl r, H1, I1, rfl, q1⟩
/-- object.__ne__ found in the class -/
theorem ifBound_ne {M : Model} {A : Around} {E : Value → Shared → Prop} {s : Shared} {K : PySem.W.Frag} {x C : Addr} {ox : Obj} {od : Option Obj} {args : List Value} {Q : Option Value → Shared → Prop} (X : K.In s.heap) (I : PySem.W.InstAt s.heap x ox C od)
    (hs : PySem.W.findIn K (.ref C) "__ne__" = some (some (.builtin "object.__ne__"))) (h : wpAny M A (call (.builtin "object.__ne__") (.ref x :: args)) (fun v => Q (some v)) E s) :
    wpAny M A (callSpecialIfBound? (.ref x) "__ne__" args) Q E s := by
  simp only [callSpecialIfBound?, bindSpecialIfBound?]
  refine wpAny_holding (wpAny_bind (wpAny_bind (wpAny_bind (I.type.here ((PySem.W.looks_findIn X hs).here ?_)))))
  refine wpAny_bind (wpAny_askSetting (wpAny_ite ?_))
  have last : wpAny M A (call (.builtin "object.__ne__") ([.ref x] ++ args) >>= fun v => pure (some v)) Q E s :=
    wpAny_bind (wpAny_mono h (fun _ _ z => wpAny_pure z) fun _ _ z => z)
  have bound := PySem.F.cmp_object.ne.bind (.ref x)
  split
  · exact wpAny_bind (wpAny_of_eq bound (wpAny_pure (by exact last)))
  · exact wpAny_tryCatch (wpAny_bind (wpAny_of_eq bound (wpAny_pure (by exact last))))
theorem op_neOwn (F : FnOk X.prog X.w X.K X.mg X.base CX k f fd ps sp) (e : EqF X.K C f) (hr : Room (k + 1) X.A) (hb : Binds X.K fd ps []) (hx : Passes CX X E) : OpR X (compareOp .NotEq) (rOwn C sp E true) := by
  intro pins s σ H x y v u Q I rx ry h
  obtain ⟨a, b, dx, dy, fs, gs, rfl, rfl, ha, hb', q⟩ := h
  cases rx
  cases ry
  obtain ⟨ox, od, J⟩ := inst_at I ha
  obtain ⟨oy, oe, J'⟩ := inst_at I hb'
  have hu : X.A.units < cLine := hr.units0
  have hl : [Value.ref a, Value.ref b].length = ps.length := by
    have := F.len _ _ _ _ q
    exact this
  -- the own == beneath object.__ne__
  have own : wpAny (model X.prog X.w) X.A.in1 (call (.ref f) [.ref a, .ref b]) (fun v s' => ∃ r, v = .bool r ∧ EP X pins σ Q (.bool (!r)) s') X.xe s := by
    refine wpAny_call (codeAny_mono (F.run X.A.in1 X.stack s H ⟨[.ref a, .ref b], []⟩ [.ref a, .ref b] [.ref a, .ref b] _ E hr.in1 I.env0.in1 (by
      have z := hb s [.ref a, .ref b] I.kIn (by simpa using hl)
      simpa using z) (.cons rfl (.cons rfl .nil)) q) fun r s' hq => ?_)
    cases r with
    | error er => exact hx pins σ H s er s' I hq
    | ok fl =>
      cases fl with
      | ret w =>
        obtain ⟨z, H', I', rz, r, ez, q'⟩ := I.after hq
        subst ez
        cases rz
        exact ⟨r, rfl, .bl (!r), H', I', rfl, q'⟩
      | next => exact False.elim hq
      | brk => exact False.elim hq
      | cont => exact False.elim hq
  have entry : wpAny (model X.prog X.w) X.A.in1 (Builtin.«object.__ne__» ⟨[.ref a, .ref b], []⟩) (fun fin s' => match fin with
      | .done fl => ∃ v, fl = .ret v ∧ ∃ r, v = .bool r ∧ EP X pins σ Q v s'
      | .again _ => False) X.xe s := by
    unfold Builtin.«object.__ne__»
    repeat (first
      | with_reducible refine wpAny_cRoomFor (show X.A.in1.units < cLine by have := hr.un; show X.A.units + 1 < cLine; omega) ?_
      | (refine wpAny_bind (m := callSpecialIfBound? (.ref a) (Str.ofString "__eq__") [.ref b]) (PySem.W.ifBound_K I.kIn J e.eq e.fn (wpAny_mono own (fun v s' z => ?_) fun _ _ z => z))
         obtain ⟨r, ev, z⟩ := z
         subst ev
         refine wpAny_bind (m := truthy (.bool r)) (wpAny_truthy_bool (wpAny_pure ?_))
         exact ⟨_, rfl, _, rfl, z⟩)
      | wp_step)
  have one : wpAny (model X.prog X.w) X.A (tryCompare (.ref a) "__ne__" (.ref b)) (fun r s' => ∃ v, r = some v ∧ EP X pins σ Q v s') X.xe s := by
    unfold tryCompare
    refine wpAny_bind (ifBound_ne I.kIn J e.ne (wpAny_call (codeAny_call_builtin PySem.F.cmp_object.ne.plain PySem.F.cmpEntry_ne (PySem.W.check_slot PySem.F.cmpKind_ne PySem.F.cmpSplit_ne (J.type.andThen (PySem.W.looks_mroIn I.kIn e.mro)) (PySem.F.cmpArgs_ne _ _) ?_))))
    refine wpAny_mono entry (fun fin s' z => ?_) fun _ _ z => z
    cases fin with
    | again c => exact z.elim
    | done fl =>
      obtain ⟨v, rfl, r, rfl, z⟩ := z
      exact wpAny_pure ⟨_, rfl, z⟩
  show wpAny (model X.prog X.w) X.A (richCompare .NotEq (.ref a) (.ref b)) (EP X pins σ Q) X.xe s
  unfold richCompare
  simp only [oneThing_ref]
  refine wpAny_holding (wpAny_bind (wpAny_cRoomFor hu ?_))
  refine wpAny_bind (J.type.here (wpAny_bind (J'.type.here ?_)))
  rw [show (Value.ref C != Value.ref C) = false from by simp]
  simp only [Bool.false_eq_true, if_false]
  refine wpAny_bind (wpAny_pure ?_)
  simp only [Bool.false_eq_true, if_false]
  refine wpAny_bind (wpAny_mono one (fun r s' z => ?_) fun _ _ z => z)
  obtain ⟨v, rfl, z⟩ := z
  exact wpAny_pure z
end
end K67R
set_option Elab.async false
set_option linter.all false
set_option maxRecDepth 100000
set_option maxHeartbeats 4000000
namespace K67R
open PySem PySem.Spec PyProof.Rows L2
/-- enumerate(v) begins, whatever v is that begins by one object -/
theorem meets_enum1 {v : Value} {o : Obj} {H : Heap → Prop} (B : Begins v o H) :
    Meets (Builtin.«enumerate.__new__» ⟨[.type "enumerate", v], []⟩) (fun _ R s => H s.heap ∧
      R (.ok (.ret (.ref (s.heap.push o).objs.size))) { s with heap := (s.heap.push o).push { cls := .type "enumerate", data := .fields #[.none, .bool false, .ref s.heap.objs.size, rawInt 0, .none, .none] } }) :=
  .of_wp fun prog w A R s h => by
    obtain ⟨hp, g, d, tk, os⟩ := s
    obtain ⟨h1, h⟩ := h
    have hsub := sub_enumerate
    have q1 : ∀ {A' : Around} {E : Value → Shared → Prop} {Q : Value → Shared → Prop}, Q (.ref hp.objs.size) ⟨hp.push o, g, d, tk, os⟩ → wpAny (model prog w) A' (pyIter v) Q E ⟨hp, g, d, tk, os⟩ :=
      fun q => B.iter prog w _ _ ⟨hp, g, d, tk, os⟩ _ h1 q
    wp_walk using q1
    refine wpAny_stack_any fun st => wpAny_pure ?_
    split
    · rename_i c _ _ _ _ _
      cases (c == Value.type "enumerate") <;> (wp_walk using q1; exact ⟨_, rfl, h⟩)
    · wp_walk using q1
      exact ⟨_, rfl, h⟩
theorem enum_begin1 {prog : Program} {w : World} {A : Around} {E : Value → Shared → Prop} {s : Shared} {v : Value} {o : Obj} {H : Heap → Prop} {Q : Value → Shared → Prop} (B : Begins v o H) (h1 : H s.heap)
    (h : ∀ h', IsEnum h' (s.heap.objs.size + 1) s.heap.objs.size 0 .none → h'.get? s.heap.objs.size = some o → h'.objs.size = s.heap.objs.size + 2 →
      (∀ b o, s.heap.get? b = some o → h'.get? b = some o) → Q (.ref (s.heap.objs.size + 1)) { s with heap := h' }) :
    wpAny (model prog w) A (call (.type "enumerate") [v]) Q E s := by
  refine callType_new PySem.F.called_enumerate (by decide) (PySem.F.typeCall_enumerate_1 _) (PySem.F.newCall_enumerate_1 _) (fun obj => PySem.F.args_object_init_2 obj _) PySem.F.entry_enumerate_new (meets_enum1 B) ⟨h1, ?_⟩
  have hz : (s.heap.push o).objs.size = s.heap.objs.size + 1 := Heap.size_push ..
  show _ ∧ _
  rw [hz]
  have he : IsEnum ((s.heap.push o).push { cls := .type "enumerate", data := .fields #[.none, .bool false, .ref s.heap.objs.size, rawInt 0, .none, .none] }) (s.heap.objs.size + 1) s.heap.objs.size 0 .none := by
    have z := Heap.get?_push_size (s.heap.push o) (o := { cls := .type "enumerate", data := .fields #[.none, .bool false, .ref s.heap.objs.size, rawInt 0, .none, .none] }) rfl
    rw [hz] at z
    exact z
  exact ⟨⟨_, he, rfl⟩, h _ he (Heap.get?_push_of_some _ (Heap.get?_push_size _ B.free)) (by rw [Heap.size_push, hz]) fun b o x => Heap.get?_push_of_some _ (Heap.get?_push_of_some _ x)⟩
/-! ### enumerate(a tuple) -/
def IteT (K : PySem.W.Frag) (a : Addr) : It where
  go := fun i H => ∃ (xs : List V) (x : V), SqT K H a xs ∧ xs[i]? = some x
  yld := fun i H v H' => ∃ T x, v = .ref T ∧ H T = none ∧ H' = upd H T (.tup [.int (i : Nat), x]) ∧ ∀ xs, SqT K H a xs → xs[i]? = some x
  stop := fun i H => ∃ xs : List V, SqT K H a xs ∧ xs.length ≤ i
theorem turn_enumT {P : Program} {w : World} {K : PySem.W.Frag} {elts : List Expr} {kk : Nat} {tpos : Pos} (a e it : Addr) :
    Turn P w K (.Tuple elts kk tpos) (IteT K a) [e, it] e (fun i h => (∃ old, IsEnum h e it ((i : Nat) : Int) old) ∧ h.IsTupleIter it a i ∧ e ≠ it ∧ a ≠ it ∧ e ≠ a) where
  mem := by simp
  obj := fun i h st b hb => by
    obtain ⟨⟨old, he⟩, ⟨o, ho, hc, hd⟩, _⟩ := st
    rcases (show b = e ∨ b = it by simpa using hb) with z | z <;> rw [z]
    · exact ⟨_, he, fun v q => nomatch q⟩
    · exact ⟨o, ho, fun v q => by rw [hd] at q; cases q⟩
  keep := fun i h h' st k => by
    obtain ⟨⟨old, he⟩, hi, hn⟩ := st
    exact ⟨⟨old, k e (by simp) _ he⟩, hi.at fun o q => k it (by simp) o q, hn⟩
  item := by
    intro X hP hw hK hc i pins s σ H E I hf st hg
    subst hP hw hK
    obtain ⟨⟨old, he⟩, hit, hne, hai, hea⟩ := st
    obtain ⟨xs, x, hq, hx⟩ := hg
    obtain ⟨its, rv, p, hz⟩ := I.tuple hq
    have p : s.heap.IsTuple a its.toArray := p
    obtain ⟨u, hu, ru⟩ := rv.get hx
    have hul : i < its.toArray.size := by
      have := (List.getElem?_eq_some_iff.mp hu).1
      simpa using this
    have hel : e < s.heap.objs.size := Heap.lt_size he
    have hil : it < s.heap.objs.size := by
      obtain ⟨_, q, _⟩ := hit
      exact Heap.lt_size q
    have D := Draws.tuple (prog := X.prog) (w := X.w) (A := X.A.in1) (I.ok.hd hc) it a hai its.toArray
    refine wpAny_pyNext_enum_itemD D he ⟨hit, p⟩ hul hne (by simp [hne, hea]) fun v h' tk hv ho hs' hT hsz hk => ?_
    have ev : v = u := by
      have hu' : its.toArray[i]? = some u := by simpa using hu
      rw [hu'] at hv
      exact (Option.some.inj hv).symm
    subst ev
    refine ⟨_, rfl, wpAny_letOwnedTupleGo_enum (s := { s with heap := h', toks := tk + 1 }) ho fun h2 he2 sb => ?_⟩
    have hT2 : h2.get? s.heap.objs.size = some { cls := .type "tuple", data := .seq #[.int i tk, v] } := (sb.2 _ (Nat.ne_of_gt hel)).trans hT
    have new : ObjOk X.prog X.w (upd H s.heap.objs.size (.tup [.int (i : Nat), x])) h2 s.heap.objs.size (.tup [.int (i : Nat), x]) :=
      ⟨by show 2 ≤ sizeLine; decide, [.int i tk, v], .cons ⟨_, rfl⟩ (.cons ru .nil), ⟨_, hT2, rfl, _, rfl⟩⟩
    have I1 : Inv X pins σ (upd H s.heap.objs.size (.tup [.int (i : Nat), x])) { s with heap := h2, toks := tk + 1 } :=
      I.turnedNew (ch := [e, it]) (fun b ob hb q => (sb.2 b (fun z => hb (by simp [z]))).trans (hk b ob (fun z => hb (by simp [z])) (fun z => hb (by simp [z])) q)) hf (Nat.le_refl _) new
    refine ⟨.ref s.heap.objs.size, _, I1, rfl, ⟨_, x, rfl, I.hok.fresh (Nat.le_refl _), rfl, fun ys hy => by rw [I.tuple_inj hy hq]; exact hx⟩, ⟨⟨v, ?_⟩, hs'.1.at fun o q => (sb.2 it (Ne.symm hne)).trans q, hne, hai, hea⟩, fun b hb => ?_⟩
    · rw [show ((i + 1 : Nat) : Int) = (i : Int) + 1 by omega]
      exact he2
    · have hb' : b < s.heap.objs.size := by
        rcases (show b = e ∨ b = it by simpa using hb) with z | z <;> rw [z]
        · exact hel
        · exact hil
      exact (upd_ne (Nat.ne_of_lt hb')).trans (hf b hb).1
  done := by
    intro X hP hw hK hc i pins s σ H E I hf st hg
    subst hP hw hK
    obtain ⟨⟨old, he⟩, hit, hne, hai, hea⟩ := st
    obtain ⟨xs, hq, hx⟩ := hg
    obtain ⟨its, rv, p, hz⟩ := I.tuple hq
    have p : s.heap.IsTuple a its.toArray := p
    have hl := rv.length
    obtain ⟨f0, f1, f2, f3, f4, f5⟩ := hf it (by simp)
    have hT : s.TypeIs (.ref e) "enumerate" := ⟨_, he, rfl⟩
    have hnx : its.toArray[i]? = none := by simp; omega
    have fin : ∀ h', Heap.ExtBut it s.heap h' → Inv X pins σ H { s with heap := h' } := fun h' eb => I.turned (t' := s.toks) (fun b o hb q => eb b o hb q) f0 f1 f3 f4 f5
    unfold pyNext
    refine wpAny_bind (wpAny_attempt (wpAny_callSpecial?_slot (name := Str.ofString "__next__") hT PySem.F.slot_enumerate_next
      (wpAny_call_entry PySem.F.slot_enumerate_next hT PySem.F.entry_enumerate_next ?_ (PySem.F.args_enumerate_next_1 _))))
    show wpAny _ _ (field (.ref e) 2 >>= _) _ _ _
    refine wpAny_bind (wpAny_field he rfl (x := .ref it) rfl (wpAny_bind (wpAny_nextOf_tuple_end (I.ok.hd hc) hit p hnx fun h' x he' hx' => ?_)))
    obtain ⟨o, ho, hco⟩ := hx'
    exact wpAny_bind (wpAny_isInstance (T := "StopIteration") (b := true) ⟨o, ho, hco⟩ isSubtype_stop (wpAny_pure ⟨rfl, fin h' he'⟩))
  self := fun A i s Q E st h => let ⟨⟨_, he⟩, _⟩ := st; wpAny_pyIter_enum he h
def iEnumT (K : PySem.W.Frag) (ta : TA) : TI := fun σ H R => ta σ H fun vs H1 => ∃ a xs, vs = [.ref a] ∧ SqT K H1 a xs ∧ R (IteT K a) H1
theorem pi_enumT {X : Cx} {e : Expr} {ta : TA} {p pos tpos : Pos} {elts : List Expr} {kk : Nat} (hg : Gl X "enumerate") (hm : X.mg "enumerate" = none) (ha : PA X [e] ta) (hs : starEach [e] X.env = [(false, eval e X.env)] := by rfl) :
    PI X (.Tuple elts kk tpos) (.Call (.Name "enumerate" p) [e] [] pos) (iEnumT X.K ta) := by
  refine ⟨fun pins s σ H R I h => ?_⟩
  refine Call_ (ld_blt I hg hm boot_enumerate (PyProof.Rows.callWith_type1 (thn (ha.run pos pins s σ H _ I h) fun us s1 ⟨vs, H1, I1, r1, a, xs, ex, hq, q⟩ => ?_) hs rfl))
  subst ex
  cases r1 with
  | cons r rr =>
    cases rr
    cases r
    obtain ⟨its, rv, p', hz⟩ := I1.tuple hq
    have p' : s1.heap.IsTuple a its.toArray := p'
    have hal : a < s1.heap.objs.size := by
      obtain ⟨o, e', _⟩ := p'
      exact Heap.lt_size e'
    refine enum_begin1 (begins_tuple a its.toArray) p' fun h' he hit hsz hk => wpAny_pyIter_enum he ?_
    have I2 : Inv X pins σ H1 { s1 with heap := h' } := I1.kept (t' := s1.toks) hk
    refine ⟨s1.heap.objs.size + 1, [s1.heap.objs.size + 1, s1.heap.objs.size], _, _, H1, rfl, I2, turn_enumT a (s1.heap.objs.size + 1) s1.heap.objs.size, ⟨⟨.none, he⟩, ⟨_, hit, rfl, rfl⟩, Nat.succ_ne_self _, Nat.ne_of_lt hal, Nat.ne_of_gt (Nat.lt_succ_of_lt hal)⟩, fun b hb => ?_, q⟩
    have hle : s1.heap.objs.size ≤ b := by
      rcases (show b = s1.heap.objs.size + 1 ∨ b = s1.heap.objs.size by simpa using hb) with z | z <;> rw [z]
      · exact Nat.le_succ _
      · exact Nat.le_refl _
    exact I1.fpOk hle (I1.hok.fresh hle)
end K67R
set_option Elab.async false
set_option linter.all false
set_option maxRecDepth 100000
set_option maxHeartbeats 4000000
namespace K67R
open PySem PySem.Spec PyProof.Rows L2
/-! ### defs that ask that nothing is being shown (repr) around them -/
structure FnG (P : Program) (w : World) (K : PySem.W.Frag) (mg : Str → Option Value) (base : Heap) (k : Nat) (f : Addr) (fd : FuncData) (ps : List Str) (sp : Sp) : Prop where
  len : ∀ vs H Q E, sp vs H Q E → vs.length = ps.length
  run : ∀ (A : Around) (outer : List Env) (s : Shared) (H : Hp) (args : Args) (us : List Value) (vs : List V) (Q : VK), Room k A → A.guards = some [] → Env0 P w K mg base A outer s H → BindsTo s fd args (ps.zip us) → Vals vs us →
    sp vs H Q (fun _ _ _ => False) → codeAny (model P w) A (.call (.ref f) args) (CR (fun _ _ _ _ _ _ => False) outer P w H s Q (fun _ _ _ => False)) s
theorem fnG_of {P : Program} {w : World} {K : PySem.W.Frag} {mg : Str → Option Value} {base : Heap} {k : Nat} {f : Addr} {name qual : Str} {params : Arguments} {body : List Stmt} {scope : Scope} {dV kV doc pm cdv ct oc : Value} {an od : Option Addr}
    {osl : Array (Option Value)} {N ps : List Str} {sp : Sp} (lk : K.lookup f = some ⟨oc, od, .func (PySem.W.fnOf name qual params body scope dV kV doc pm an cdv ct), osl⟩) (hcd : PySem.W.codeIn K cdv qual = true) (S : FnScope N ps scope)
    (len : ∀ vs H Q E, sp vs H Q E → vs.length = ps.length)
    (hbody : ∀ (A : Around) (outer : List Env) (s : Shared) (H : Hp) (vs : List V) (Q : VK), Room k (A.deeper (envOfC qual scope s.heap.objs.size f cdv)) → (A.deeper (envOfC qual scope s.heap.objs.size f cdv)).guards = some [] → sp vs H Q (fun _ _ _ => False) →
      ∃ t, PSs (cxOf (fun _ _ _ _ _ _ => False) P w K mg base N qual scope f cdv A outer s H (fun _ _ _ => False)) body t ∧ t { nx := fun _ H' => Q .non H', rt := Q } (start N vs) H) :
    FnG P w K mg base (k + 1) f (PySem.W.fnOf name qual params body scope dV kV doc pm an cdv ct) ps sp := by
  refine ⟨len, fun A outer s H args us vs Q hr hg e0 hb r hsp => ?_⟩
  have KX : K.In s.heap := e0.mod.kin.keeps fun b o e => (e0.bs b o e).1
  have lim : s.heap.NoLimit := e0.mod.nolimit.keeps fun b o e => (e0.bs b o e).1
  have hkind : ∀ y ∈ ps.zip us, scope.names.lookup y.1 = some .local ∨ (scope.names.lookup y.1 = some .cell ∧ ((cellsFrom (s.heap.objs.size + 1) scope.names []).lookup y.1).isSome = true) := fun ⟨n, v⟩ hy =>
    (S.par n (List.of_mem_zip hy).1).elim .inl fun z => .inr ⟨z, PySem.W.cellsFrom_some _ _ _ (.inl z)⟩
  refine codeAny_call_function hr.depth (KX _ _ lk) rfl S.co S.gen rfl (PySem.W.codeRec_of KX hcd) (hb _ _ _ _ (wpAny_newFunctionEnv_cells S.kind hkind fun env he s1 x => ?_))
  subst he
  refine ⟨lim.keeps x.toInCall.keep, codeAny_func ?_⟩
  obtain ⟨t, ht, hq⟩ := hbody A outer s H vs Q (hr.deeper _) hg hsp
  have I := inv_start (CX := fun _ _ _ _ _ _ => False) (E := fun _ _ _ => False) (qual := qual) (f := f) (cd := cdv) S hr.hd e0 (len _ _ _ _ hsp) r x
  refine wpAny_mono (ht.run [] s1 (start N vs) H _ I hq) (fun fl s' hs => ?_) fun e s' hs => hs
  cases fl with
  | ret u =>
    obtain ⟨v, σ', H', J, rv, q⟩ := hs
    exact ⟨v, H', J.os, J.bare, J.base, J.hok, rv, q⟩
  | next =>
    obtain ⟨σ', H', J, q⟩ := hs
    exact ⟨.non, H', J.os, J.bare, J.base, J.hok, rfl, q⟩
  | brk => exact hs.elim fun _ z => z.elim fun _ z => z.2.elim
  | cont => exact hs.elim fun _ z => z.elim fun _ z => z.2.elim
theorem pe_callG {X : Cx} {k : Nat} {f : Addr} {fd : FuncData} {ps : List Str} {sp : Sp} {x : Str} {p pos : Pos} {e : Expr} {es : List Expr} {t : TA} (F : FnG X.prog X.w X.K X.mg X.base k f fd ps sp) (hr : Room k X.A) (hG : X.A.guards = some []) (hg : Gl X x) (hm : X.mg x = some (.ref f))
    (hk : PySem.W.keepIn X.K (.ref f) = true) (hb : Binds X.K fd ps []) (ha : PA X (e :: es) t) (hdb : (x == ("__debug__" : Str)) = false := by decide)
    (he : starEach (e :: es) X.env = (false, eval e X.env) :: starEach es X.env := by rfl) (hpl : (backTo pos (starEach es X.env)).any (·.1) = false := by rfl) :
    PE X (.Call (.Name x p) (e :: es) [] pos) (tCall sp [] (fun _ _ _ => False) t) := by
  refine ⟨fun pins s σ H Q I h => wpAny_Call_Name_kw (ld_glob I hg hm ?_ hdb)⟩
  refine PySem.W.callWith_K (h₀ := X.base) I.ok.mod.kin hk (thn (ha.run pos pins s σ H _ I h) fun us s1 ⟨vs, H1, I1, r, q⟩ => ⟨I1.kIn, ?_⟩) he hpl
  have q : sp (vs ++ []) H1 Q (fun _ _ _ => False) := q
  rw [List.append_nil] at q
  have hl : us.length = ps.length := by
    rw [← r.length]
    exact F.len _ _ _ _ q
  have bnd : BindsTo s1 fd ⟨us, []⟩ (ps.zip us) := by
    have z := hb s1 us I1.kIn (by simpa using hl)
    simpa using z
  refine wpAny_call (codeAny_mono (F.run X.A X.stack s1 H1 ⟨us, []⟩ us vs Q hr hG I1.env0 bnd r q) fun r s' hq => ?_)
  cases r with
  | error e => exact (show False from hq).elim
  | ok fl =>
    cases fl with
    | ret u => exact I1.after hq
    | next => exact False.elim hq
    | brk => exact False.elim hq
    | cont => exact False.elim hq
/-! ### repr([x, x]) of a small thing x -/
inductive Sm : V → PyData → Prop where
  | bl (b : Bool) : Sm (.bl b) (.bool b)
  | non : Sm .non .none
  | int (n : Nat) (h : n < 130) : Sm (.int (n : Int)) (.int (n : Int))
def twice (d : PyData) : Str := PyData.shown (.list [d, d])
theorem int_small : ∀ n, n < 130 → (twice (.int ((n : Nat) : Int))).length ≤ 100 := by decide +kernel
theorem Sm.small {x : V} {d : PyData} (h : Sm x d) : (twice d).length ≤ sizeLine := by
  refine Nat.le_trans (m := 100) ?_ (by decide)
  cases h with
  | bl b => cases b <;> decide +kernel
  | non => decide +kernel
  | int n hn => exact int_small n hn
theorem Sm.read {x : V} {d : PyData} (h : Sm x d) {u : Value} (r : L2.RelV x u) (hp : Heap) : Reads hp u d [] := by
  cases h with
  | bl b =>
    obtain rfl : u = Value.bool b := r
    exact .bool b
  | non =>
    obtain rfl : u = Value.none := r
    exact .none
  | int n hn =>
    obtain ⟨t, rfl⟩ := (show ∃ t, u = Value.int n t from r)
    exact .int _ t
theorem Sm.shows {x : V} {d : PyData} (h : Sm x d) : d.showable = true ∧ d.hasDict = false ∧ d.depth ≤ 1 := by
  cases h with
  | bl b => exact ⟨rfl, rfl, by simp [PyData.depth]⟩
  | non => exact ⟨rfl, rfl, by simp [PyData.depth]⟩
  | int n hn =>
    refine ⟨?_, rfl, by simp [PyData.depth]⟩
    show decide ((n : Int).natAbs.log2 < 1920) = true
    have h1 : (n : Int).natAbs = n := by simp
    rw [h1]
    have h2 : n.log2 ≤ n := Nat.log2_le_self n
    exact decide_eq_true (by omega)
def rRep2 : List V → Hp → VK → Prop := fun xs H Q => ∃ p x d, xs = [.ref p] ∧ H p = some (.lst [x, x]) ∧ Sm x d ∧ Q (.str (twice d)) H
theorem call_rep2 {X : Cx} (hG : X.A.guards = some []) (hr : Room 1 X.A) : CallR X (.builtin "repr") rRep2 := by
  intro pins s σ H xs us Q I r h
  obtain ⟨p, x, d, rfl, hp, sm, q⟩ := h
  obtain ⟨u, rfl, ru⟩ := vals1 r
  obtain rfl : u = Value.ref p := ru
  obtain ⟨z, its, n, rv, e⟩ := I.hok p _ hp
  obtain ⟨u1, u2, rfl, r1, r2⟩ := vals2 rv
  have rd : Reads s.heap (.ref p) (.list [d, d]) (p :: ([] ++ ([] ++ []))) := .list e rfl rfl (.cons (sm.read r1 _) (.cons (sm.read r2 _) .nil))
  obtain ⟨h1, h2, h3⟩ := sm.shows
  have hs : (PyData.list [d, d]).showable = true := by
    show (d.showable && (d.showable && true)) = true
    rw [h1] <;> rfl
  have hd : (PyData.list [d, d]).hasDict = false := by
    show (d.hasDict || (d.hasDict || false)) = false
    rw [h2] <;> rfl
  have hdp : (PyData.list [d, d]).depth ≤ 3 := by
    simp only [PyData.depth, PyData.depthAll]
    omega
  refine repr_of_reads' rd hs (noDict h2 hd) hG (by have := hr.units; omega) (fun _ _ e => e) (fun h' u tk hk => ?_) sm.small
  exact ⟨.str (twice d), H, I.kept (t' := tk) hk, ⟨u, rfl⟩, q⟩
where
  noDict {d : PyData} {as : List Addr} (_ : d.hasDict = false) {e : PyData} (h : e.hasDict = false) : e.hasDict = true → sysModules ∉ as := fun z => by
    rw [h] at z
    cases z
end K67R
set_option Elab.async false
set_option linter.all false
set_option maxRecDepth 100000
set_option maxHeartbeats 4000000
namespace K67
open PySem L2 Evl
/-! ### the text -/
def topS (i : Nat) : Stmt := PySem.Challenge.pw_restworld_k67_whole_circles_of_two.main.body.getD i (.Pass ⟨0, 0, 0, 0⟩)
/-! ### defs -/
structure Fn (P : Program) (w : World) (K : PySem.W.Frag) (mg : Str → Option Value) (base : Heap) (k : Nat) (x : Str) (ps : List Str) (sp : Sp) : Prop where
  ex : ∃ f fd, FnOk P w K mg base CX0 k f fd ps sp ∧ mg x = some (.ref f) ∧ PySem.W.keepIn K (.ref f) = true ∧ L2.Binds K fd ps []
theorem pe_fn {X : Cx} {k : Nat} {ps : List Str} {sp : Sp} {x : Str} {p pos : Pos} {e : Expr} {es : List Expr} {t : TA} (G : Fn X.prog X.w X.K X.mg X.base k x ps sp) (hr : Room k X.A) (hg : Gl X x) (ha : PA X (e :: es) t) (hdb : (x == ("__debug__" : Str)) = false := by decide)
    (he : starEach (e :: es) X.env = (false, eval e X.env) :: starEach es X.env := by rfl) (hpl : (backTo pos (starEach es X.env)).any (·.1) = false := by rfl) :
    PE X (.Call (.Name x p) (e :: es) [] pos) (tCall sp [] E0 t) := by
  obtain ⟨f, fd, F, hm, hk, hb⟩ := G.ex
  exact pe_call F hr hg hm hk hb .nil pass0 ha hdb he hpl
/-- the names that are the built-in ones still -/
structure Bt (mg : Str → Option Value) : Prop where
  isinstance : mg "isinstance" = none
  int : mg "int" = none
  bool : mg "bool" = none
  abs : mg "abs" = none
  tuple : mg "tuple" = none
  enumerate : mg "enumerate" = none
  dict : mg "dict" = none
  all : mg "all" = none
  range : mg "range" = none
  list : mg "list" = none
  len : mg "len" = none
  sorted : mg "sorted" = none
  max : mg "max" = none
  min : mg "min" = none
  zip : mg "zip" = none
  set : mg "set" = none
  repr : mg "repr" = none
  divmod : mg "divmod" = none
/-! ### tests -/
theorem itT {c : Bool} {A B : Prop} (hc : c = true) (h : A) : if c = true then A else B := by
  rw [if_pos hc]
  exact h
theorem itF {c : Bool} {A B : Prop} (hc : c = false) (h : B) : if c = true then A else B := by
  rw [if_neg (by rw [hc]; decide)]
  exact h
theorem itB {c : Bool} {A B : Prop} (h1 : c = true → A) (h2 : c = false → B) : if c = true then A else B := by
  cases c with
  | true => exact itT rfl (h1 rfl)
  | false => exact itF rfl (h2 rfl)
/-! ### values -/
def iv (l : List Nat) : List V := l.map fun (n : Nat) => V.int (n : Int)
def bv (f : Nat → Bool) (n : Nat) : List V := (List.range n).map fun x => V.bl (f x)
theorem iv_ints (l : List Nat) : iv l = (zs l).map V.int := by
  unfold iv zs
  rw [List.map_map]
  rfl
theorem iv_len (l : List Nat) : (iv l).length = l.length := by
  unfold iv
  rw [List.length_map]
theorem iv_get {l : List Nat} {i : Nat} {x : V} (h : (iv l)[i]? = some x) : ∃ n, l[i]? = some n ∧ x = .int (n : Int) := by
  unfold iv at h
  rw [List.getElem?_map] at h
  cases e : l[i]? with
  | none =>
    rw [e] at h
    cases h
  | some n =>
    rw [e] at h
    exact ⟨n, rfl, (Option.some.inj h).symm⟩
theorem iv_at {l : List Nat} {i n : Nat} (h : l[i]? = some n) : (iv l)[i]? = some (.int (n : Int)) := by
  unfold iv
  rw [List.getElem?_map, h]
  rfl
theorem bv_len (f : Nat → Bool) (n : Nat) : (bv f n).length = n := by
  unfold bv
  rw [List.length_map, List.length_range]
theorem bv_at {f : Nat → Bool} {n i : Nat} (h : i < n) : (bv f n)[i]? = some (.bl (f i)) := by
  unfold bv
  rw [List.getElem?_map, List.getElem?_range h]
  rfl
theorem bv_get {f : Nat → Bool} {n i : Nat} {x : V} (h : (bv f n)[i]? = some x) : i < n ∧ x = .bl (f i) := by
  have hl := (List.getElem?_eq_some_iff.mp h).1
  rw [bv_len] at hl
  rw [bv_at hl] at h
  exact ⟨hl, (Option.some.inj h).symm⟩
theorem iv_flat (l : List Nat) : (iv l).all flatV = true := by
  unfold iv
  rw [List.all_map, List.all_eq_true]
  intro x _
  rfl
theorem inV_iv (n : Nat) (l : List Nat) : inV (.int (n : Int)) (iv l) = decide (n ∈ l) := by
  unfold inV iv
  rw [List.any_map]
  rw [Bool.eq_iff_iff, List.any_eq_true, decide_eq_true_iff]
  constructor
  · rintro ⟨x, hx, h⟩
    have h : ((x : Int) == (n : Int)) = true := h
    have e : x = n := by
      have := beq_iff_eq.mp h
      omega
    rw [← e]
    exact hx
  · intro h
    refine ⟨n, h, ?_⟩
    show ((n : Int) == (n : Int)) = true
    exact beq_iff_eq.mpr rfl
/-! ### heaps -/
theorem ex_up {H H' : Hp} {p : Addr} {o : HO} (e : Ex H H') (n : H' p = none) : Ex H (upd H' p o) := e.trans (Ex.new n)
theorem ex_t' {K : PySem.W.Frag} {H : Hp} {a : Addr} {xs : List V} (h : H a = some (.tup xs)) : SqT K H a xs := Or.inl (Or.inl h)
/-- a list or a tuple of it stands at a -/
def Sq (K : PySem.W.Frag) (H : Hp) (a : Addr) (xs : List V) : Prop := SqL K H a xs ∨ SqT K H a xs
theorem Sq.ex {K : PySem.W.Frag} {H H' : Hp} {a : Addr} {xs : List V} (h : Sq K H a xs) (e : Ex H H') : Sq K H' a xs := h.elim (fun h => .inl (ex_l e h)) fun h => .inr (ex_t e h)
end K67
set_option Elab.async false
set_option linter.all false
set_option maxRecDepth 100000
set_option maxHeartbeats 4000000
namespace K67
open PySem L2 Evl
section
variable {P : Program} {w : World} {K : PySem.W.Frag} {mg : Str → Option Value} {base : Heap}
/-! ### common_of -/
abbrev sCommon : Stmt := topS 12
theorem scCommon : FnScope ["one", "other"] ["one", "other"] (defScope sCommon) := ⟨rfl, rfl, rfl, by decide +kernel, rfl, by decide +kernel, by decide +kernel⟩
def spCommon : Sp := fun vs H Q _ => ∃ a b : Nat, vs = [.int (a : Int), .int (b : Int)] ∧ ∀ H', Ex H H' → Q (.int ((Nat.gcd a b : Nat) : Int)) H'
theorem ok_common {f : Addr} {fd : FuncData} (F : Fun K "common_of" "common_of" sCommon f fd) (B : Bt mg) : FnOk P w K mg base CX0 1 f fd ["one", "other"] spCommon := by
  refine F.ok scCommon (fun vs H Q E h => ?_) (fun cdv A outer s H vs Q E hr h => ?_)
  · obtain ⟨a, b, rfl, _⟩ := h
    rfl
  · obtain ⟨a, b, rfl, q⟩ := h
    refine ⟨_, pss_cons (ps_par (i := 0) (j := 1) (by rfl) scCommon.nd rfl rfl (by decide) rfl rfl (pa_cons (pe_callB call_abs (by rfl) B.abs (by decide +kernel) (pa_cons (pv 0) pa_nil)) (pa_cons (pe_callB call_abs (by rfl) B.abs (by decide +kernel) (pa_cons (pv 1) pa_nil)) pa_nil)) (by rfl))
      (pss_cons (ps_while PassesOwn.never (pt_cmpR op_gt (pv 1) pe_int (nomark _)) (pss_one (ps_par (i := 0) (j := 1) (by rfl) scCommon.nd rfl rfl (by decide) rfl rfl (pa_cons (pv 1) (pa_cons (pe_op op_mod (pv 0) (pv 1)) pa_nil)) (by rfl))))
      (pss_one (ps_ret (pv 0)))), ?_⟩
    have ha : (if (a : Int) < 0 then -(a : Int) else (a : Int)) = (a : Int) := if_neg (by omega)
    have hb : (if (b : Int) < 0 then -(b : Int) else (b : Int)) = (b : Int) := if_neg (by omega)
    refine ⟨_, rfl, _, rfl, _, rfl, _, rfl, _, _, rfl, ?_⟩
    rw [ha, hb]
    refine ⟨fun m σ H2 => ∃ x : Nat, σ = [some (.int (x : Int)), some (.int (m : Int))] ∧ Nat.gcd x m = Nat.gcd a b ∧ H2 = H, ⟨b, a, rfl, rfl, rfl⟩, ?_⟩
    rintro m σ H2 ⟨x, rfl, hg, rfl⟩
    refine ⟨_, rfl, _, _, rfl, rfl, _, rfl, ?_⟩
    by_cases hm : 0 < m
    · refine itT (decide_eq_true (by omega)) ?_
      refine ⟨fun σ' H' => ∃ x' : Nat, σ' = [some (.int (m : Int)), some (.int ((x' : Nat) : Int))] ∧ x' = x % m ∧ H' = H2, fun σ' H' ⟨x', e1, e2, e3⟩ => ⟨x', by rw [e2]; exact Nat.mod_lt _ hm, m, e1, ?_, e3⟩, ?_⟩
      · rw [e2, ← hg, Nat.gcd_comm x m, Nat.gcd_rec m x, Nat.gcd_comm]
      · refine ⟨_, rfl, _, rfl, _, rfl, _, _, rfl, rfl, (by show (0 : Int) < m; omega), _, _, rfl, x % m, ?_, rfl, rfl⟩
        rfl
    · have e0 : m = 0 := by omega
      subst e0
      refine itF (by decide) ?_
      refine ⟨_, rfl, ?_⟩
      rw [Nat.gcd_zero_right] at hg
      rw [hg]
      exact q _ (Ex.refl _)
end
end K67
set_option Elab.async false
set_option linter.all false
set_option maxRecDepth 100000
set_option maxHeartbeats 4000000
namespace K67
open PySem L2 Evl
section
variable {P : Program} {w : World} {K : PySem.W.Frag} {mg : Str → Option Value} {base : Heap}
/-! ### multiple_of -/
abbrev sMultiple : Stmt := topS 13
theorem scMultiple : FnScope ["one", "other"] ["one", "other"] (defScope sMultiple) := ⟨rfl, rfl, rfl, by decide +kernel, rfl, by decide +kernel, by decide +kernel⟩
def spMultiple : Sp := fun vs H Q _ => ∃ a b : Nat, vs = [.int (a : Int), .int (b : Int)] ∧ 0 < a ∧ a ≤ 1000 ∧ 0 < b ∧ b ≤ 1000 ∧ ∀ H', Ex H H' → Q (.int ((Nat.lcm a b : Nat) : Int)) H'
theorem ok_multiple {f : Addr} {fd : FuncData} (F : Fun K "multiple_of" "multiple_of" sMultiple f fd) (B : Bt mg) (GC : Fn P w K mg base 1 "common_of" ["one", "other"] spCommon) : FnOk P w K mg base CX0 2 f fd ["one", "other"] spMultiple := by
  refine F.ok scMultiple (fun vs H Q E h => ?_) (fun cdv A outer s H vs Q E hr h => ?_)
  · obtain ⟨a, b, rfl, _⟩ := h
    rfl
  · obtain ⟨a, b, rfl, ha, ha2, hb, hb2, q⟩ := h
    refine ⟨_, pss_one (ps_ret (pe_ifExp (PW.pt (pw_and (pt_cmpR op_ne (pv 0) pe_int (nomark _)) (pw_and1 (pt_cmpR op_ne (pv 1) pe_int (nomark _)))))
      (pe_op op_fdiv (pe_callB call_abs (by rfl) B.abs (by decide +kernel) (pa_cons (pe_op op_mul (pv 0) (pv 1)) pa_nil)) (pe_fn GC hr (by rfl) (pa_cons (pv 0) (pa_cons (pv 1) pa_nil)))) pe_int)), ?_⟩
    have h0 : (!decide (V.int (a : Int) = V.int 0)) = true := by
      rw [decide_eq_false (fun e => by
        have := V.int.inj e
        omega)]
      rfl
    have h1 : (!decide (V.int (b : Int) = V.int 0)) = true := by
      rw [decide_eq_false (fun e => by
        have := V.int.inj e
        omega)]
      rfl
    refine ⟨_, rfl, rfl, _, rfl, itT h0 ?_⟩
    refine ⟨_, rfl, rfl, _, rfl, itT h1 ?_⟩
    refine ⟨_, rfl, _, rfl, _, _, rfl, rfl, .inl (by omega), _, rfl, _, rfl, _, rfl, a, b, rfl, fun H1 e1 => ?_⟩
    have hg : 0 < Nat.gcd a b := Nat.gcd_pos_of_pos_left b ha
    have hg2 : Nat.gcd a b ≤ a := Nat.gcd_le_left b ha
    refine ⟨_, _, rfl, rfl, ⟨by omega, by omega⟩, ?_⟩
    have e0 : (if (a : Int) * (b : Int) < 0 then -((a : Int) * (b : Int)) else (a : Int) * (b : Int)) = ((a * b : Nat) : Int) := by
      have : (a : Int) * (b : Int) = ((a * b : Nat) : Int) := by simp
      rw [this, if_neg (by omega)]
    rw [e0]
    exact q _ e1
/-! ### apart_of -/
abbrev sApart : Stmt := topS 14
theorem scApart : FnScope ["number", "found", "step", "often"] ["number"] (defScope sApart) := ⟨rfl, rfl, rfl, by decide +kernel, rfl, by decide +kernel, by decide +kernel⟩
/-- pairs of numbers, as tuples -/
def PairsAt (H : Hp) (ps : List Addr) (qs : List (Nat × Nat)) : Prop := ps.length = qs.length ∧ ∀ (i : Nat) (p : Addr) (q : Nat × Nat), ps[i]? = some p → qs[i]? = some q → H p = some (.tup [.int (q.1 : Int), .int (q.2 : Int)])
theorem PairsAt.ex {H H' : Hp} {ps : List Addr} {qs : List (Nat × Nat)} (h : PairsAt H ps qs) (e : Ex H H') : PairsAt H' ps qs := ⟨h.1, fun i p q h1 h2 => e _ _ (h.2 i p q h1 h2)⟩
theorem PairsAt.snoc {H : Hp} {ps : List Addr} {qs : List (Nat × Nat)} (h : PairsAt H ps qs) {p : Addr} {a b : Nat} (hp : H p = some (.tup [.int (a : Int), .int (b : Int)])) : PairsAt H (ps ++ [p]) (qs ++ [(a, b)]) := by
  refine ⟨by simp [h.1], fun i x y h1 h2 => ?_⟩
  rcases Nat.lt_or_ge i ps.length with q | q
  · rw [List.getElem?_append_left q] at h1
    rw [List.getElem?_append_left (by rw [← h.1]; exact q)] at h2
    exact h.2 i x y h1 h2
  · rw [List.getElem?_append_right q] at h1
    rw [List.getElem?_append_right (by rw [← h.1]; exact q)] at h2
    rw [h.1] at h1
    cases hz : i - qs.length with
    | zero =>
      rw [hz] at h1 h2
      cases h1
      cases h2
      exact hp
    | succ k =>
      rw [hz] at h1
      simp at h1
def spApart : Sp := fun vs H Q _ => ∃ N : Nat, vs = [.int (N : Int)] ∧ 0 < N ∧ N < 31 ∧ ∀ t ps H', Ex H H' → H' t = some (.tup (ps.map V.ref)) → PairsAt H' ps (ap N) → Q (.ref t) H'
theorem apIn_yes {k n s o : Nat} (h : n % s = 0) : apIn (k + 1) n s o = apIn k (n / s) s (o + 1) := by
  show (if n % s = 0 then _ else _) = _
  rw [if_pos h]
theorem apIn_no {k n s o : Nat} (h : ¬ n % s = 0) : apIn k n s o = (n, o) := by
  cases k with
  | zero => rfl
  | succ k =>
    show (if n % s = 0 then _ else _) = _
    rw [if_neg h]
theorem ap_step {k n s : Nat} {fd : List (Nat × Nat)} (h : s * s ≤ n) : apOut (k + 1) n s fd = apOut k (apIn n n s 0).1 (if s = 2 then s + 1 else s + 2) (if (apIn n n s 0).2 > 0 then fd ++ [(s, (apIn n n s 0).2)] else fd) := by
  show (if s * s ≤ n then _ else _) = _
  rw [if_pos h]
theorem ap_end {k n s : Nat} {fd : List (Nat × Nat)} (h : ¬ s * s ≤ n) (hk : 0 < k) : apOut k n s fd = if n > 1 then fd ++ [(n, 1)] else fd := by
  cases k with
  | zero => omega
  | succ k =>
    show (if s * s ≤ n then _ else _) = _
    rw [if_neg h]
def ApW (N : Nat) (fl : Addr) (H : Hp) (k : Nat) (σ : L2.St) (H2 : Hp) : Prop := ∃ (n st : Nat) (fd : List (Nat × Nat)) (ps : List Addr) (x3 : Option V), σ = [some (.int (n : Int)), some (.ref fl), some (.int (st : Int)), x3] ∧ apOut k n st fd = ap N ∧ 0 < n ∧ n ≤ N ∧ 2 ≤ st ∧ 0 < k ∧
  12 ≤ st + k ∧ st + 2 * k ≤ 22 ∧ fd.length + k ≤ 10 ∧ Ex H H2 ∧ H2 fl = some (.lst (ps.map V.ref)) ∧ PairsAt H2 ps fd
theorem ok_apart {f : Addr} {fd : FuncData} (F : Fun K "apart_of" "apart_of" sApart f fd) (B : Bt mg) : FnOk P w K mg base CX0 1 f fd ["number"] spApart := by
  refine F.ok scApart (fun vs H Q E h => ?_) (fun cdv A outer s H vs Q E hr h => ?_)
  · obtain ⟨N, rfl, _⟩ := h
    rfl
  · obtain ⟨N, rfl, hN, hN2, q⟩ := h
    refine ⟨_, pss_cons (ps_par (i := 1) (j := 2) (by rfl) scApart.nd rfl rfl (by decide) rfl rfl (pa_cons (pe_lst pa_nil) (pa_cons pe_int pa_nil)) (by rfl))
      (pss_cons (ps_while PassesOwn.never (pt_cmpR op_le (pe_op op_mul (pv 2) (pv 2)) (pv 0) (nomark _))
        (pss_cons (ps_set (i := 3) scApart.nd rfl (.inl rfl) pe_int)
        (pss_cons (ps_while PassesOwn.never (pt_cmpR op_eq (pe_op op_mod (pv 0) (pv 2)) pe_int (nomark _)) (pss_one (ps_par (i := 0) (j := 3) (by rfl) scApart.nd rfl rfl (by decide) rfl rfl (pa_cons (pe_op op_fdiv (pv 0) (pv 2)) (pa_cons (pe_op op_add (pv 3) pe_int) pa_nil)) (by rfl))))
        (pss_cons (ps_if (pt_cmpR op_gt (pv 3) pe_int (nomark _)) (pss_one (ps_expr (pe_bm PySem.F.plainAttrs_list PySem.F.slot_list_append PySem.F.type_list_append mt_append (pv 1) (pa_cons (pe_tup (pa_cons (pv 2) (pa_cons (pv 3) pa_nil))) pa_nil)))) pss_nil)
        (pss_one (ps_set (i := 2) scApart.nd rfl (.inl rfl) (pe_ifExp (pt_cmpR op_eq (pv 2) pe_int (nomark _)) (pe_op op_add (pv 2) pe_int) (pe_op op_add (pv 2) pe_int))))))))
      (pss_one (ps_ret (pe_ifExp (pt_cmpR op_gt (pv 0) pe_int (nomark _)) (pe_tup (StX.pa_star (pv 1) (pa_cons (pe_tup (pa_cons (pv 0) (pa_cons pe_int pa_nil))) pa_nil))) (pe_callTy call_tuple_of (by rfl) B.tuple (by decide +kernel) (pa_cons (pv 1) pa_nil)))))), ?_⟩
    refine ⟨Nat.zero_le _, fun fl nfl => ?_⟩
    refine ⟨_, _, rfl, ?_⟩
    refine ⟨ApW N fl H, ⟨10, N, 2, [], [], none, rfl, rfl, hN, Nat.le_refl _, by decide, by decide, by decide, by decide, by decide, Ex.new nfl, upd_same, rfl, fun i p q h => by simp at h⟩, ?_⟩
    rintro k σ H2 ⟨n, st, fd, ps, x3, rfl, hk, hn, hnN, hst, hk0, hsk, hsk2, hfk, e2, hfl, hps⟩
    refine ⟨_, rfl, _, rfl, _, _, rfl, rfl, .inl (by omega), _, rfl, _, _, rfl, rfl, _, rfl, itB (fun hb => ?_) (fun hb => ?_)⟩
    · -- another step
      have hb : (st : Int) * (st : Int) ≤ (n : Int) := of_decide_eq_true hb
      have hb2 : st * st ≤ n := by
        have : ((st * st : Nat) : Int) ≤ (n : Int) := by simpa using hb
        omega
      have hst5 : st ≤ 5 := by
        rcases Nat.lt_or_ge 5 st with z | z
        · have : 6 * 6 ≤ st * st := Nat.mul_le_mul z z
          omega
        · exact z
      obtain ⟨k', rfl⟩ : ∃ k', k = k' + 1 := ⟨k - 1, by omega⟩
      rw [ap_step hb2] at hk
      refine ⟨ApW N fl H k', fun σ' H' z => ⟨k', Nat.lt_succ_self _, z⟩, ?_⟩
      refine ⟨fun m σ' H' => ∃ (o kk : Nat), σ' = [some (.int (m : Int)), some (.ref fl), some (.int (st : Int)), some (.int (o : Int))] ∧ apIn kk m st o = apIn n n st 0 ∧ m ≤ kk ∧ 0 < m ∧ m ≤ n ∧ H' = H2,
        ⟨n, 0, n, rfl, rfl, Nat.le_refl _, hn, Nat.le_refl _, rfl⟩, ?_⟩
      rintro m σ' H' ⟨o, kk, rfl, hap, hmk, hm0, hmn, rfl⟩
      refine ⟨_, rfl, _, rfl, _, _, rfl, rfl, (by show (0 : Int) < st; omega), rfl, _, rfl, itB (fun hb => ?_) (fun hb => ?_)⟩
      · -- it divides once more
        have hb : ((m : Int) % (st : Int)) = 0 := V.int.inj (of_decide_eq_true hb)
        have hb : m % st = 0 := by omega
        obtain ⟨kk', rfl⟩ : ∃ kk', kk = kk' + 1 := ⟨kk - 1, by omega⟩
        have hd : m / st < m := Nat.div_lt_self hm0 (by omega)
        have hd0 : 0 < m / st := by
          rcases Nat.eq_zero_or_pos (m / st) with z | z
          · have := Nat.div_add_mod m st
            rw [z, hb] at this
            omega
          · exact z
        refine ⟨fun σ2 H3 => σ2 = [some (.int ((m / st : Nat) : Int)), some (.ref fl), some (.int (st : Int)), some (.int ((o + 1 : Nat) : Int))] ∧ H3 = H', fun σ2 H3 ⟨z1, z2⟩ => ⟨m / st, hd, o + 1, kk', z1, by rw [← hap, apIn_yes hb], by omega, hd0, by omega, z2⟩, ?_⟩
        refine ⟨_, rfl, _, rfl, _, _, rfl, rfl, ⟨by omega, by omega⟩, _, rfl, _, _, rfl, rfl, _, _, rfl, ?_, rfl⟩
        rfl
      · have hb : ¬ (V.int ((m : Int) % (st : Int)) = V.int 0) := of_decide_eq_false hb
        have hb : ¬ m % st = 0 := fun z => hb (by
          congr 1
          omega)
        rw [apIn_no hb] at hap
        rw [← hap] at hk
        -- if often > 0: found.append((step, often)); step = ..
        have fin : ∀ (fd' : List (Nat × Nat)) (ps' : List Addr) (H3 : Hp), fd' = (if o > 0 then fd ++ [(st, o)] else fd) → fd'.length ≤ fd.length + 1 → Ex H H3 → H3 fl = some (.lst (ps'.map V.ref)) → PairsAt H3 ps' fd' →
            ApW N fl H k' [some (.int (m : Int)), some (.ref fl), some (.int (if st = 2 then (st : Int) + 1 else (st : Int) + 2)), some (.int (o : Int))] H3 := fun fd' ps' H3 z1 z2 z3 z4 z5 => by
          refine ⟨m, if st = 2 then st + 1 else st + 2, fd', ps', some (.int (o : Int)), ?_, ?_, hm0, by omega, ?_, by omega, ?_, ?_, by omega, z3, z4, z5⟩
          · by_cases h2 : st = 2
            · rw [if_pos h2, if_pos h2]
              rfl
            · rw [if_neg h2, if_neg h2]
              rfl
          · rw [← hk, z1]
          · split <;> omega
          · split <;> omega
          · split <;> omega
        have step : ∀ (H3 : Hp) (D : Ends), D.nx [some (.int (m : Int)), some (.ref fl), some (.int (if st = 2 then (st : Int) + 1 else (st : Int) + 2)), some (.int (o : Int))] H3 →
            tAsg (tIf (tTest (tOp rEq (tVar 2) (tC (.int 2)))) (tOp (rI0 fun i j => .int (i + j)) (tVar 2) (tC (.int 1))) (tOp (rI0 fun i j => .int (i + j)) (tVar 2) (tC (.int 2)))) (gName 2) D
              [some (.int (m : Int)), some (.ref fl), some (.int (st : Int)), some (.int (o : Int))] H3 := fun H3 D z => by
          refine ⟨_, rfl, rfl, _, rfl, itB (fun hc => ?_) (fun hc => ?_)⟩
          · have hc : (st : Int) = 2 := V.int.inj (of_decide_eq_true hc)
            rw [if_pos (by omega)] at z
            exact ⟨_, rfl, _, _, rfl, rfl, z⟩
          · have hc : ¬ (V.int (st : Int) = V.int 2) := of_decide_eq_false hc
            rw [if_neg (fun e => hc (by rw [e] <;> rfl))] at z
            exact ⟨_, rfl, _, _, rfl, rfl, z⟩
        refine ⟨_, rfl, _, _, rfl, rfl, _, rfl, itB (fun hc => ?_) (fun hc => ?_)⟩
        · have hc : (0 : Int) < (o : Int) := of_decide_eq_true hc
          have ho : o > 0 := by omega
          refine ⟨_, rfl, .inl ⟨rfl, _, .inl (.inl hfl)⟩, _, rfl, _, rfl, (by show 2 ≤ sizeLine; decide), fun p np => ?_⟩
          have npl : fl ≠ p := ne_of_none hfl np
          have hfl' : upd H' p (.tup [.int (st : Int), .int (o : Int)]) fl = some (.lst (ps.map V.ref)) := by
            rw [upd_ne npl]
            exact hfl
          refine ⟨fl, _, _, rfl, rfl, hfl', (by rw [List.length_map, hps.1]; exact small1000 (by omega)), ?_⟩
          refine step _ _ (fin (fd ++ [(st, o)]) (ps ++ [p]) _ (by rw [if_pos ho]) (by simp) ((ex_up e2 np).mut nfl) ?_ ?_)
          · rw [upd_same, List.map_append]
            rfl
          · have e3 : ∀ b o', H' b = some o' → b ≠ fl → upd (upd H' p (.tup [.int (st : Int), .int (o : Int)])) fl (.lst (ps.map V.ref ++ [.ref p])) b = some o' := fun b o' h1 h2 => by
              rw [upd_ne h2, upd_ne (ne_of_none h1 np)]
              exact h1
            have q1 : PairsAt (upd (upd H' p (.tup [.int (st : Int), .int (o : Int)])) fl (.lst (ps.map V.ref ++ [.ref p]))) ps fd := ⟨hps.1, fun i a b h1 h2 => e3 _ _ (hps.2 i a b h1 h2) (ne_of (hps.2 i a b h1 h2) hfl (by intro z; cases z))⟩
            refine q1.snoc ?_
            rw [upd_ne npl.symm, upd_same]
        · have hc : ¬ (0 : Int) < (o : Int) := of_decide_eq_false hc
          have ho : ¬ o > 0 := by omega
          exact step _ _ (fin fd ps _ (by rw [if_neg ho]) (by omega) e2 hfl hps)
    · -- the end
      have hb : ¬ (st : Int) * (st : Int) ≤ (n : Int) := of_decide_eq_false hb
      have hb2 : ¬ st * st ≤ n := fun z => hb (by
        have : ((st * st : Nat) : Int) ≤ (n : Int) := by omega
        simpa using this)
      rw [ap_end hb2 hk0] at hk
      refine ⟨_, rfl, _, _, rfl, rfl, _, rfl, itB (fun hc => ?_) (fun hc => ?_)⟩
      · have hc : (1 : Int) < (n : Int) := of_decide_eq_true hc
        rw [if_pos (by omega)] at hk
        refine ⟨_, rfl, fl, _, rfl, .inr (.inl (.inl hfl)), _, rfl, (by show 2 ≤ sizeLine; decide), fun p np => ?_⟩
        refine ⟨(by rw [List.length_append, List.length_map, hps.1]; show fd.length + 1 ≤ _; exact Nat.le_of_lt (small1000 (by omega))), fun t nt => ?_⟩
        have e3 : Ex H (upd (upd H2 p (.tup [.int (n : Int), .int 1])) t (.tup (ps.map V.ref ++ [.ref p]))) := ex_up (ex_up e2 np) nt
        have e4 : Ex H2 (upd (upd H2 p (.tup [.int (n : Int), .int 1])) t (.tup (ps.map V.ref ++ [.ref p]))) := ex_up (Ex.new np) nt
        refine q t (ps ++ [p]) _ e3 (by rw [upd_same, List.map_append] <;> rfl) ?_
        rw [← hk]
        refine (hps.ex e4).snoc ?_
        have : p ≠ t := ne_of_none (show upd H2 p (.tup [.int (n : Int), .int 1]) p = _ from upd_same) nt
        rw [upd_ne this, upd_same]
        rfl
      · have hc : ¬ (1 : Int) < (n : Int) := of_decide_eq_false hc
        rw [if_neg (by omega)] at hk
        refine ⟨_, rfl, fl, _, rfl, .inl ⟨.inl (.inl hfl), fun t nt => ?_⟩⟩
        refine q t ps _ (ex_up e2 nt) upd_same ?_
        rw [← hk]
        exact hps.ex (Ex.new nt)
end
end K67
set_option Elab.async false
set_option linter.all false
set_option maxRecDepth 100000
set_option maxHeartbeats 4000000
namespace K67
open PySem L2 Evl
/-! ### dicts of True -/
def kvT (ns : List Nat) : List (Key × V) := ns.map fun (n : Nat) => (Sum.inl (n : Int), V.bl true)
theorem kvT_len (ns : List Nat) : (kvT ns).length = ns.length := by
  unfold kvT
  rw [List.length_map]
theorem kvT_get {ns : List Nat} {i : Nat} {k : Key} {v : V} (h : (kvT ns)[i]? = some (k, v)) : ∃ n, ns[i]? = some n ∧ k = Sum.inl (n : Int) ∧ v = .bl true := by
  unfold kvT at h
  rw [List.getElem?_map] at h
  cases e : ns[i]? with
  | none =>
    rw [e] at h
    cases h
  | some n =>
    rw [e] at h
    cases h
    exact ⟨n, rfl, rfl, rfl⟩
theorem valV_kvT (n : Nat) : ∀ ns : List Nat, (valV (kvT ns) (Sum.inl (n : Int) : Key)).isSome = decide (n ∈ ns)
  | [] => rfl
  | a :: r => by
    by_cases e : a = n
    · subst e
      have : kvT (a :: r) = (Sum.inl (a : Int), V.bl true) :: kvT r := rfl
      rw [this, valV_pos rfl]
      simp
    · have : kvT (a :: r) = (Sum.inl (a : Int), V.bl true) :: kvT r := rfl
      rw [this, valV_neg (fun z => e (by
        have := Sum.inl.inj z
        omega)), valV_kvT n r, Bool.eq_iff_iff]
      simp
      exact fun z => absurd z.symm e
def addN (acc : List Nat) (n : Nat) : List Nat := if n ∈ acc then acc else acc ++ [n]
def uniq (l : List Nat) : List Nat := l.foldl addN []
theorem put_kvT (acc : List Nat) (n : Nat) : putK (kvT acc) (Sum.inl (n : Int) : Key) (V.bl true) = kvT (addN acc n) := by
  unfold putK addN
  rw [valV_any, valV_kvT]
  by_cases h : n ∈ acc
  · rw [if_pos (decide_eq_true h), if_pos h]
    unfold kvT
    rw [List.map_map]
    refine List.map_congr_left fun a _ => ?_
    show (if (Sum.inl (a : Int) : Key) = Sum.inl (n : Int) then ((Sum.inl (a : Int) : Key), V.bl true) else (Sum.inl (a : Int), V.bl true)) = _
    split <;> rfl
  · rw [if_neg (by simp [h]), if_neg h]
    unfold kvT
    rw [List.map_append]
    rfl
theorem merge_go : ∀ (l acc : List Nat), mergeK (kvT acc) (kvT l) = kvT (l.foldl addN acc)
  | [], acc => rfl
  | n :: r, acc => by
    show mergeK (putK (kvT acc) (Sum.inl (n : Int)) (V.bl true)) (kvT r) = kvT (r.foldl addN (addN acc n))
    rw [put_kvT]
    exact merge_go r (addN acc n)
theorem merge_kvT (l : List Nat) : mergeK [] (kvT l) = kvT (uniq l) := merge_go l []
theorem addN_nd {acc : List Nat} (h : acc.Nodup) (n : Nat) : (addN acc n).Nodup := by
  unfold addN
  split
  · exact h
  · rename_i hn
    rw [List.nodup_append]
    refine ⟨h, by simp, fun a ha b hb => ?_⟩
    have : b = n := by simpa using hb
    rw [this]
    exact fun e => hn (e ▸ ha)
theorem addN_mem {acc : List Nat} {n m : Nat} : m ∈ addN acc n ↔ m ∈ acc ∨ m = n := by
  unfold addN
  split
  · rename_i hn
    constructor
    · exact .inl
    · rintro (h | rfl)
      · exact h
      · exact hn
  · simp
theorem fold_addN : ∀ (l acc : List Nat), acc.Nodup → (l.foldl addN acc).Nodup ∧ ∀ m, m ∈ l.foldl addN acc ↔ m ∈ acc ∨ m ∈ l
  | [], acc, h => ⟨h, fun m => by simp⟩
  | n :: r, acc, h => by
    obtain ⟨h1, h2⟩ := fold_addN r (addN acc n) (addN_nd h n)
    refine ⟨h1, fun m => ?_⟩
    show m ∈ r.foldl addN (addN acc n) ↔ _
    rw [h2, addN_mem, List.mem_cons, or_assoc]
theorem uniq_nd (l : List Nat) : (uniq l).Nodup := (fold_addN l [] (by simp)).1
theorem uniq_mem (l : List Nat) (m : Nat) : m ∈ uniq l ↔ m ∈ l := by
  have := (fold_addN l [] (by simp)).2 m
  simpa [uniq] using this
theorem fold_id : ∀ (l acc : List Nat), (acc ++ l).Nodup → l.foldl addN acc = acc ++ l
  | [], acc, _ => by simp
  | n :: r, acc, h => by
    have hn : n ∉ acc := fun z => by
      rw [List.nodup_append] at h
      exact h.2.2 n z n List.mem_cons_self rfl
    show r.foldl addN (addN acc n) = _
    have e : addN acc n = acc ++ [n] := if_neg hn
    rw [e, fold_id r (acc ++ [n]) (by simpa using h)]
    simp
theorem uniq_id {l : List Nat} (h : l.Nodup) : uniq l = l := by
  have := fold_id l [] (by simpa using h)
  simpa [uniq] using this
/-! ### walks -/
theorem pi_or {X : Cx} {tg e : Expr} {w1 w2 : TI} (h1 : PI X tg e w1) (h2 : PI X tg e w2) : PI X tg e (fun σ H R => w1 σ H R ∨ w2 σ H R) :=
  ⟨fun pins s σ H R I h => h.elim (fun h => h1.run pins s σ H R I h) fun h => h2.run pins s σ H R I h⟩
/-- a comprehension over anything: n turns, turn i gives Y i -/
theorem lc_any {J : It} {n : Nat} {Y : Nat → V} {g : TG} {tt : TT} {te : TE} {vs : List Nat} {σ : L2.St} {H1 : Hp} {D : Addr} {Qd : Hp → Prop} (Pv : Nat → Hp → Prop) (go : ∀ i H, i < n → Pv i H → J.go i H) (stop : ∀ H, Pv n H → J.stop n H)
    (yld : ∀ i H x H', i < n → Pv i H → J.yld i H x H' → H' = H ∧ x = Y i) (h0 : Pv 0 (upd H1 D (.lst [])))
    (hs : ∀ i H, i < n → Pv i H → g (Y i) (wipe σ vs) H fun σ2 H2 => wipe σ2 vs = wipe σ vs ∧ tt σ2 H2 fun b H3 =>
      if b = true then te σ2 H3 fun y H4 => ∃ acc, H4 D = some (.lst acc) ∧ acc.length < sizeLine ∧ Pv (i + 1) (upd H4 D (.lst (acc ++ [y]))) else Pv (i + 1) H3) (hd : ∀ H, Pv n H → Qd H) :
    ∃ W : Nat → Nat → Hp → Prop, (∃ m, W 0 m (upd H1 D (.lst []))) ∧ ∀ i m H, W i m H →
      (J.stop i H ∧ Qd H) ∨ (J.go i H ∧ ∃ Nx : Hp → Prop, (∀ H', Nx H' → ∃ m', m' < m ∧ W (i + 1) m' H') ∧ ∀ x H', J.yld i H x H' → g x (wipe σ vs) H' fun σ2 H2 => wipe σ2 vs = wipe σ vs ∧ tt σ2 H2 fun b H3 =>
        if b = true then te σ2 H3 fun y H4 => ∃ acc, H4 D = some (.lst acc) ∧ acc.length < sizeLine ∧ Nx (upd H4 D (.lst (acc ++ [y]))) else Nx H3) := by
  refine ⟨fun i m H => m = n - i ∧ i ≤ n ∧ Pv i H, ⟨n, by omega, Nat.zero_le _, h0⟩, ?_⟩
  rintro i m H ⟨rfl, hi, p⟩
  by_cases hlt : i < n
  · refine .inr ⟨go i H hlt p, Pv (i + 1), fun H' p' => ⟨n - (i + 1), by omega, rfl, hlt, p'⟩, fun x H' y => ?_⟩
    obtain ⟨e1, e2⟩ := yld i H x H' hlt p y
    subst e1 e2
    exact hs i _ hlt p
  · have e : i = n := by omega
    subst e
    exact .inl ⟨stop H p, hd H p⟩
/-- anything that a walk over a list, a tuple or a dict's keys of the numbers ns gives, while H1 stands -/
structure Wk (J : It) (ns : List Nat) (H1 : Hp) : Prop where
  go : ∀ i H, i < ns.length → Ex H1 H → J.go i H
  stop : ∀ H, Ex H1 H → J.stop ns.length H
  yld : ∀ (i : Nat) (H : Hp) (x : V) (H' : Hp) (n : Nat), ns[i]? = some n → Ex H1 H → J.yld i H x H' → H' = H ∧ x = .int (n : Int)
theorem wk_list {K : PySem.W.Frag} {a : Addr} {ns : List Nat} {H1 : Hp} (h : SqL K H1 a (iv ns)) : Wk (Itl K a) ns H1 where
  go := fun i H hi e => ⟨iv ns, _, ex_l e h, iv_at (List.getElem?_eq_getElem hi)⟩
  stop := fun H e => ⟨iv ns, ex_l e h, by rw [iv_len]; exact Nat.le_refl _⟩
  yld := fun i H x H' n hn e y => ⟨y.1, by
    have z := y.2 _ (ex_l e h)
    rw [iv_at hn] at z
    exact (Option.some.inj z).symm⟩
theorem wk_tup {K : PySem.W.Frag} {a : Addr} {ns : List Nat} {H1 : Hp} (h : SqT K H1 a (iv ns)) : Wk (Itt K a) ns H1 where
  go := fun i H hi e => ⟨iv ns, _, ex_t e h, iv_at (List.getElem?_eq_getElem hi)⟩
  stop := fun H e => ⟨iv ns, ex_t e h, by rw [iv_len]; exact Nat.le_refl _⟩
  yld := fun i H x H' n hn e y => ⟨y.1, by
    have z := y.2 _ (ex_t e h)
    rw [iv_at hn] at z
    exact (Option.some.inj z).symm⟩
theorem wk_keys {d : Addr} {o : Obj} {ns : List Nat} {H1 : Hp} (h : H1 d = some (.frz o (.dK (kvT ns)))) : Wk (Itk d o (kvT ns)) ns H1 where
  go := fun i H hi e => ⟨e _ _ h, by rw [kvT_len]; exact hi⟩
  stop := fun H e => ⟨e _ _ h, by rw [kvT_len]; exact Nat.le_refl _⟩
  yld := fun i H x H' n hn e y => ⟨y.1, by
    obtain ⟨k, v, h1, h2⟩ := y.2
    obtain ⟨m, h3, h4, _⟩ := kvT_get h1
    rw [hn] at h3
    cases h3
    rw [h2, h4]
    rfl⟩
theorem wipe1 {σ : L2.St} {j : Nat} {x : Option V} : wipe ((wipe σ [j]).set j x) [j] = wipe σ [j] := by
  show ((σ.set j none).set j x).set j none = σ.set j none
  rw [List.set_set, List.set_set]
theorem paired_of {α β : Type} {F : α → β → Prop} : ∀ {l : List α} {m : List β}, l.length = m.length → (∀ (i : Nat) a b, l[i]? = some a → m[i]? = some b → F a b) → Paired F l m
  | [], [], _, _ => .nil
  | [], _ :: _, h, _ => by simp at h
  | _ :: _, [], h, _ => by simp at h
  | a :: l, b :: m, h, f => .cons (f 0 a b rfl rfl) (paired_of (by simpa using h) fun i x y h1 h2 => f (i + 1) x y h1 h2)
theorem yes_of {σ : L2.St} {H : Hp} {A B : Hp → Prop} (h : A H) : tYes σ H fun b H3 => if b = true then A H3 else B H3 := by
  show (if true = true then A H else B H)
  rw [if_pos rfl]
  exact h
/-- [(e, True) for x in ..]: e gives h of each number -/
theorem lc_kv {J : It} {ns : List Nat} {hf : Nat → Nat} {te : TE} {j : Nat} {σ : L2.St} {H1 : Hp} {D : Addr} {Qd : Hp → Prop} (w : Wk J ns H1) (hD : H1 D = none) (hz : ns.length ≤ 1000)
    (ht : ∀ (n : Nat) (H : Hp), n ∈ ns → Ex H1 H → ∀ Q : VK, Q (.int ((hf n : Nat) : Int)) H → te ((wipe σ [j]).set j (some (.int (n : Int)))) H Q)
    (hd : ∀ (ps : List Addr) (H : Hp), Ex H1 H → H D = some (.lst (ps.map V.ref)) → Paired (fun p kv => H p = some (.tup [kV kv.1, kv.2])) ps (kvT (ns.map hf)) → Qd H) :
    ∃ W : Nat → Nat → Hp → Prop, (∃ m, W 0 m (upd H1 D (.lst []))) ∧ ∀ i m H, W i m H →
      (J.stop i H ∧ Qd H) ∨ (J.go i H ∧ ∃ Nx : Hp → Prop, (∀ H', Nx H' → ∃ m', m' < m ∧ W (i + 1) m' H') ∧ ∀ x H', J.yld i H x H' → gName j x (wipe σ [j]) H' fun σ2 H2 => wipe σ2 [j] = wipe σ [j] ∧ tYes σ2 H2 fun b H3 =>
        if b = true then tTup (tCons te (tCons (tC (.bl true)) tNil)) σ2 H3 fun y H4 => ∃ acc, H4 D = some (.lst acc) ∧ acc.length < sizeLine ∧ Nx (upd H4 D (.lst (acc ++ [y]))) else Nx H3) := by
  refine lc_any (n := ns.length) (Y := fun i => .int ((ns.getD i 0 : Nat) : Int)) (fun i H => ∃ ps : List Addr, Ex H1 H ∧ ps.length = i ∧ H D = some (.lst (ps.map V.ref)) ∧ ∀ (l : Nat) (p : Addr) (n : Nat), ps[l]? = some p → ns[l]? = some n → H p = some (.tup [.int ((hf n : Nat) : Int), .bl true]))
    (fun i H hi ⟨_, e, _⟩ => w.go i H hi e) (fun H ⟨_, e, _⟩ => w.stop H e) (fun i H x H' hi ⟨_, e, _⟩ y => ?_) ⟨[], Ex.new hD, rfl, upd_same, fun l p n h => by simp at h⟩ (fun i H hi p => ?_) (fun H p => ?_)
  · have hg : ns[i]? = some (ns.getD i 0) := by simp [List.getD, List.getElem?_eq_getElem hi]
    exact w.yld i H x H' _ hg e y
  · obtain ⟨ps, e, hl, hl2, hp⟩ := p
    have hg : ns[i]? = some (ns.getD i 0) := by simp [List.getD, List.getElem?_eq_getElem hi]
    generalize ns.getD i 0 = n at hg ⊢
    refine ⟨wipe1, yes_of ?_⟩
    refine ht n H (List.mem_of_getElem? hg) e _ ?_
    refine ⟨(by show 2 ≤ sizeLine; decide), fun p np => ?_⟩
    have nD : D ≠ p := ne_of_none hl2 np
    refine ⟨ps.map V.ref, ?_, ?_, ps ++ [p], ?_, by simp [hl], ?_, fun l q m h1 h2 => ?_⟩
    · rw [upd_ne nD]
      exact hl2
    · rw [List.length_map, hl]
      exact small1000 (by omega)
    · exact (ex_up e np).mut hD
    · rw [upd_same, List.map_append]
      rfl
    · rcases Nat.lt_or_ge l ps.length with z | z
      · rw [List.getElem?_append_left z] at h1
        have h3 := hp l q m h1 h2
        have n1 : q ≠ D := ne_of h3 hl2 (by intro z; cases z)
        have n2 : q ≠ p := ne_of_none h3 np
        rw [upd_ne n1, upd_ne n2]
        exact h3
      · rw [List.getElem?_append_right z] at h1
        cases hq : l - ps.length with
        | zero =>
          rw [hq] at h1
          cases h1
          have : l = i := by omega
          subst this
          rw [hg] at h2
          cases h2
          rw [upd_ne nD.symm, upd_same]
        | succ k =>
          rw [hq] at h1
          simp at h1
  · obtain ⟨ps, e, hl, hl2, hp⟩ := p
    refine hd ps H e hl2 (paired_of (by rw [hl, kvT_len, List.length_map]) fun l p kv h1 h2 => ?_)
    obtain ⟨n, h3, h4, h5⟩ := kvT_get (k := kv.1) (v := kv.2) h2
    rw [List.getElem?_map] at h3
    cases h6 : ns[l]? with
    | none =>
      rw [h6] at h3
      cases h3
    | some m =>
      rw [h6] at h3
      cases h3
      rw [h4, h5]
      exact hp l p m h1 h6
/-- [e for x in .. if t]: t and e tell of each number -/
theorem lc_fm {J : It} {ns : List Nat} {fl : Nat → Bool} {vf : Nat → V} {tt : TT} {te : TE} {j : Nat} {σ : L2.St} {H1 : Hp} {D : Addr} {Qd : Hp → Prop} (w : Wk J ns H1) (hD : H1 D = none) (hz : ns.length ≤ 1000)
    (ht : ∀ (n : Nat) (H : Hp), n ∈ ns → Ex H1 H → ∀ Q : Bool → Hp → Prop, (∀ H', Ex H H' → Q (fl n) H') → tt ((wipe σ [j]).set j (some (.int (n : Int)))) H Q)
    (he : ∀ (n : Nat) (H : Hp), n ∈ ns → fl n = true → Ex H1 H → ∀ Q : VK, (∀ H', Ex H H' → Q (vf n) H') → te ((wipe σ [j]).set j (some (.int (n : Int)))) H Q)
    (hd : ∀ (H : Hp), Ex H1 H → H D = some (.lst ((ns.filter fl).map vf)) → Qd H) :
    ∃ W : Nat → Nat → Hp → Prop, (∃ m, W 0 m (upd H1 D (.lst []))) ∧ ∀ i m H, W i m H →
      (J.stop i H ∧ Qd H) ∨ (J.go i H ∧ ∃ Nx : Hp → Prop, (∀ H', Nx H' → ∃ m', m' < m ∧ W (i + 1) m' H') ∧ ∀ x H', J.yld i H x H' → gName j x (wipe σ [j]) H' fun σ2 H2 => wipe σ2 [j] = wipe σ [j] ∧ tt σ2 H2 fun b H3 =>
        if b = true then te σ2 H3 fun y H4 => ∃ acc, H4 D = some (.lst acc) ∧ acc.length < sizeLine ∧ Nx (upd H4 D (.lst (acc ++ [y]))) else Nx H3) := by
  refine lc_any (n := ns.length) (Y := fun i => .int ((ns.getD i 0 : Nat) : Int)) (fun i H => Ex H1 H ∧ H D = some (.lst (((ns.take i).filter fl).map vf)))
    (fun i H hi ⟨e, _⟩ => w.go i H hi e) (fun H ⟨e, _⟩ => w.stop H e) (fun i H x H' hi ⟨e, _⟩ y => ?_) ⟨Ex.new hD, upd_same⟩ (fun i H hi p => ?_) (fun H p => ?_)
  · have hg : ns[i]? = some (ns.getD i 0) := by simp [List.getD, List.getElem?_eq_getElem hi]
    exact w.yld i H x H' _ hg e y
  · obtain ⟨e, hl⟩ := p
    have hg : ns[i]? = some (ns.getD i 0) := by simp [List.getD, List.getElem?_eq_getElem hi]
    generalize ns.getD i 0 = n at hg ⊢
    have hm : n ∈ ns := List.mem_of_getElem? hg
    have ht1 : ns.take (i + 1) = ns.take i ++ [n] := by
      rw [List.take_add_one, hg]
      rfl
    refine ⟨wipe1, ht n H hm e _ fun H2 e2 => ?_⟩
    refine itB (fun hb => ?_) (fun hb => ?_)
    · refine he n H2 hm hb (e.trans e2) _ fun H3 e3 => ?_
      refine ⟨_, e3 _ _ (e2 _ _ hl), ?_, ?_, ?_⟩
      · rw [List.length_map]
        refine small1000 (Nat.le_trans (List.length_filter_le _ _) ?_)
        rw [List.length_take]
        omega
      · exact ((e.trans e2).trans e3).mut hD
      · rw [upd_same, ht1, List.filter_append, List.map_append]
        simp [hb]
    · refine ⟨e.trans e2, ?_⟩
      rw [ht1, List.filter_append]
      simp only [hb, List.filter_cons, List.filter_nil, Bool.false_eq_true, if_false, List.append_nil]
      exact e2 _ _ hl
  · obtain ⟨e, hl⟩ := p
    refine hd H e ?_
    rw [List.take_length] at hl
    exact hl
/-- .. without an if -/
theorem lc_all {J : It} {ns : List Nat} {vf : Nat → V} {te : TE} {j : Nat} {σ : L2.St} {H1 : Hp} {D : Addr} {Qd : Hp → Prop} (w : Wk J ns H1) (hD : H1 D = none) (hz : ns.length ≤ 1000)
    (he : ∀ (n : Nat) (H : Hp), n ∈ ns → Ex H1 H → ∀ Q : VK, (∀ H', Ex H H' → Q (vf n) H') → te ((wipe σ [j]).set j (some (.int (n : Int)))) H Q)
    (hd : ∀ (H : Hp), Ex H1 H → H D = some (.lst (ns.map vf)) → Qd H) :
    ∃ W : Nat → Nat → Hp → Prop, (∃ m, W 0 m (upd H1 D (.lst []))) ∧ ∀ i m H, W i m H →
      (J.stop i H ∧ Qd H) ∨ (J.go i H ∧ ∃ Nx : Hp → Prop, (∀ H', Nx H' → ∃ m', m' < m ∧ W (i + 1) m' H') ∧ ∀ x H', J.yld i H x H' → gName j x (wipe σ [j]) H' fun σ2 H2 => wipe σ2 [j] = wipe σ [j] ∧ tYes σ2 H2 fun b H3 =>
        if b = true then te σ2 H3 fun y H4 => ∃ acc, H4 D = some (.lst acc) ∧ acc.length < sizeLine ∧ Nx (upd H4 D (.lst (acc ++ [y]))) else Nx H3) := by
  refine lc_fm (fl := fun _ => true) w hD hz (fun n H _ _ Q q => q H (Ex.refl H)) (fun n H hm _ e Q q => he n H hm e Q q) (fun H e h => hd H e ?_)
  rw [h, List.filter_eq_self.mpr (fun _ _ => rfl)]
theorem wk_range {lo : Nat} {n : Nat} {H1 : Hp} : Wk (Itr (lo : Int) n) ((List.range n).map fun i => lo + i) H1 where
  go := fun i H hi e => by
    show i < n
    simpa using hi
  stop := fun H e => by
    show n ≤ _
    simp
  yld := fun i H x H' m hn e y => ⟨y.1, by
    rw [List.getElem?_map] at hn
    have hx : x = .int ((lo : Int) + (i : Nat)) := y.2
    cases h : (List.range n)[i]? with
    | none =>
      rw [h] at hn
      cases hn
    | some z =>
      rw [h] at hn
      have hz : z = i := by
        have := (List.getElem?_eq_some_iff.mp h).2
        simpa using this.symm
      cases hn
      rw [hx, hz]
      congr 1⟩
theorem wk_range0 {n : Nat} {H1 : Hp} : Wk (Itr 0 n) (List.range n) H1 := by
  have h := wk_range (lo := 0) (n := n) (H1 := H1)
  simpa using h
theorem ex_unlock {H H' : Hp} {d : Addr} {od : Obj} {u : HO} (e : Ex (upd H d (.frz od u)) H') (h : H d = some u) : Ex H (upd H' d u) := fun b o hb => by
  by_cases z : b = d
  · subst z
    rw [h] at hb
    cases hb
    exact upd_same
  · rw [upd_ne z]
    exact e b o (by rw [upd_ne z]; exact hb)
end K67
set_option Elab.async false
set_option linter.all false
set_option maxRecDepth 100000
set_option maxHeartbeats 8000000
namespace K67
open PySem L2 Evl
section
variable {P : Program} {w : World} {K : PySem.W.Frag} {mg : Str → Option Value} {base : Heap}
abbrev sLB : Stmt := topS 18
abbrev nLB : List Str := ["base", "rests", "known", "prime", "often", "turn", "less", "rest"]
theorem scLB : FnScope nLB ["base", "rests"] (defScope sLB) := ⟨rfl, rfl, rfl, by decide +kernel, rfl, by decide +kernel, by decide +kernel⟩
def KnAt (H : Hp) (d : Addr) (g : Nat → Bool) (b : Nat) : Prop := ∃ ns : List Nat, H d = some (.dK (kvT ns)) ∧ ns.Nodup ∧ ns.length ≤ 1000 ∧ ∀ n, n ∈ ns ↔ n < b ∧ g n = true
def spLB (K : PySem.W.Frag) : Sp := fun vs H Q _ => ∃ (b0 : Nat) (r : Addr) (rs : List Nat) (g : Nat → Bool), vs = [.int (b0 : Int), .ref r] ∧ 0 < b0 ∧ b0 < 31 ∧ Sq K H r (iv rs) ∧ rs.length ≤ 1000 ∧ PerAll g b0 ∧ (∀ n, n ∈ rs ↔ n < b0 ∧ g n = true) ∧
  ∀ (t d : Addr) (p : Nat) (H' : Hp), Ex H H' → H' t = some (.tup [.int (p : Int), .ref d]) → KnAt H' d g p → 0 < p → p ≤ b0 → PerAll g p → (∀ q, PerAll g q → p ∣ q) → Q (.ref t) H'
theorem addN_len (acc : List Nat) (n : Nat) : (addN acc n).length ≤ acc.length + 1 := by
  unfold addN
  split
  · omega
  · simp
theorem fold_len : ∀ (l acc : List Nat), (l.foldl addN acc).length ≤ acc.length + l.length
  | [], acc => by simp
  | n :: r, acc => by
    have h1 := fold_len r (addN acc n)
    have h2 := addN_len acc n
    show (r.foldl addN (addN acc n)).length ≤ acc.length + (r.length + 1)
    omega
theorem uniq_len (l : List Nat) : (uniq l).length ≤ l.length := by
  have := fold_len l []
  simpa [uniq] using this
theorem flat_drop {l : List (Nat × Nat)} {i : Nat} {q : Nat × Nat} (h : l[i]? = some q) : flat (l.drop i) = List.replicate q.2 q.1 ++ flat (l.drop (i + 1)) := by
  have hi := (List.getElem?_eq_some_iff.mp h).1
  rw [List.drop_eq_getElem_cons hi]
  have e : l[i] = q := (List.getElem?_eq_some_iff.mp h).2
  rw [e]
  rfl
theorem sim_cons {p q : Nat} {qs : List Nat} {b : Nat} (h : sim p (q :: qs) b = true) : 0 < q ∧ 0 < b / q ∧ (if p ∣ b / q then sim p qs (b / q) else sim p qs b) = true := by
  unfold sim at h
  simp only [Bool.and_eq_true, decide_eq_true_eq] at h
  exact ⟨h.1.1, h.1.2, h.2⟩
/-- the frame between two turns of the loops -/
def LbW (H : Hp) (r : Addr) (g : Nat → Bool) (b0 p : Nat) (qs : List Nat) (x3 x4 : Option V) (σ : L2.St) (H2 : Hp) : Prop := ∃ (b : Nat) (d : Addr) (x5 x6 x7 : Option V), σ = [some (.int (b : Int)), some (.ref r), some (.ref d), x3, x4, x5, x6, x7] ∧
  Ex H H2 ∧ KnAt H2 d g b ∧ 0 < b ∧ b ≤ b0 ∧ PerAll g b ∧ sim p qs b = true
theorem ok_lb {f : Addr} {fd : FuncData} (F : Fun K "least_base" "least_base" sLB f fd) (B : Bt mg) (GA : Fn P w K mg base 1 "apart_of" ["number"] spApart) : FnOk P w K mg base CX0 2 f fd ["base", "rests"] (spLB K) := by
  refine F.ok scLB (fun vs H Q E h => ?_) (fun cdv A outer s H vs Q E hr h => ?_)
  · obtain ⟨b0, r, rs, g, rfl, _⟩ := h
    rfl
  · obtain ⟨b0, r, rs, g, rfl, hb0, hb1, hS, hz, hg, hrs, q⟩ := h
    obtain ⟨p, hp, hpg, hpd⟩ := least_per hb0 hg
    refine ⟨_, Evl.pss_cut (ps_set (i := 2) scLB.nd rfl (.inr rfl) (pe_callTy (call_dictP rfl) (by rfl) B.dict (by decide +kernel) (pa_cons
        (pe_lc (own := [("rest", 7)]) (g := gName 7) (tt := tYes) rfl scLB.nd (pi_or (pi_list (pv 1)) (pi_tup (pv 1))) (blkOk_by (N := nLB) (sc := defScope sLB) (by decide +kernel)) (fun _ _ _ _ _ => pg_name (i := 7) scLB.nd rfl (.inl rfl)) (fun _ _ _ _ _ => pts_nil)
          (fun _ _ _ _ _ => pe_tup (pa_cons (pv 7) (pa_cons pe_bl pa_nil)))) pa_nil)))
      (pss_cons (ps_for PassesOwn.never rfl (pi_tup (pe_fn GA hr (by rfl) (pa_cons (pv 0) pa_nil))) (pg_tup rfl (pgs_cons (pg_name (i := 3) scLB.nd rfl (.inl rfl)) (pgs_cons (pg_name (i := 4) scLB.nd rfl (.inl rfl)) pgs_nil)))
        (pss_one (ps_for PassesOwn.never rfl (pi_range1 (by rfl) B.range (pa_cons (pv 4) pa_nil)) (pg_name (i := 5) scLB.nd rfl (.inl rfl))
          (pss_cons (ps_set (i := 6) scLB.nd rfl (.inr rfl) (pe_op op_fdiv (pv 0) (pv 3)))
          (pss_one (ps_if (pt_val (pe_callB (cr_all rfl) (by rfl) B.all (by decide +kernel) (pa_cons
              (pe_lock (pe_lc (own := [("rest", 7)]) (g := gName 7) (tt := tYes) rfl scLB.nd (pi_keys (pv 2)) (blkOk_by (N := nLB) (sc := defScope sLB) (by decide +kernel)) (fun _ _ _ _ _ => pg_name (i := 7) scLB.nd rfl (.inl rfl)) (fun _ _ _ _ _ => pts_nil)
                (fun _ _ _ _ _ => pe_cmp (pc_din (hu_of hr) (pe_op op_mod (pe_op op_add (pv 7) (pv 6)) (pv 0)) (pv 2))))) pa_nil)))
            (pss_one (ps_asg (pe_tup (pa_cons (pv 6) (pa_cons (pe_callTy (call_dictP rfl) (by rfl) B.dict (by decide +kernel) (pa_cons
              (pe_lock (pe_lc (own := [("rest", 7)]) (g := gName 7) (tt := tYes) rfl scLB.nd (pi_keys (pv 2)) (blkOk_by (N := nLB) (sc := defScope sLB) (by decide +kernel)) (fun _ _ _ _ _ => pg_name (i := 7) scLB.nd rfl (.inl rfl)) (fun _ _ _ _ _ => pts_nil)
                (fun _ _ _ _ _ => pe_tup (pa_cons (pe_op op_mod (pv 7) (pv 6)) (pa_cons pe_bl pa_nil))))) pa_nil)) pa_nil)))
              (pg_tup rfl (pgs_cons (pg_name (i := 0) scLB.nd rfl (.inr rfl)) (pgs_cons (pg_name (i := 2) scLB.nd rfl (.inr rfl)) pgs_nil)))))
            pss_nil))))))
      (pss_one (ps_ret (pe_tup (pa_cons (pv 0) (pa_cons (pv 2) pa_nil)))))), ?_⟩
    -- known = dict([(rest, True) for rest in rests])
    have first : ∀ (J : It) (D : Addr) (Qd : Hp → Prop), Wk J rs H → H D = none → (∀ (ps : List Addr) (H1 : Hp), Ex H H1 → H1 D = some (.lst (ps.map V.ref)) → Paired (fun p kv => H1 p = some (.tup [kV kv.1, kv.2])) ps (kvT rs) → Qd H1) →
        ∃ W : Nat → Nat → Hp → Prop, (∃ m, W 0 m (upd H D (.lst []))) ∧ ∀ i m H, W i m H →
          (J.stop i H ∧ Qd H) ∨ (J.go i H ∧ ∃ Nx : Hp → Prop, (∀ H', Nx H' → ∃ m', m' < m ∧ W (i + 1) m' H') ∧ ∀ x H', J.yld i H x H' → gName 7 x (wipe (start nLB [V.int (b0 : Int), V.ref r]) [7]) H' fun σ2 H2 => wipe σ2 [7] = wipe (start nLB [V.int (b0 : Int), V.ref r]) [7] ∧ tYes σ2 H2 fun b H3 =>
            if b = true then tTup (tCons (tVar 7) (tCons (tC (.bl true)) tNil)) σ2 H3 fun y H4 => ∃ acc, H4 D = some (.lst acc) ∧ acc.length < sizeLine ∧ Nx (upd H4 D (.lst (acc ++ [y]))) else Nx H3) := fun J D Qd wk nD hd => by
      refine lc_kv (hf := fun n => n) wk nD hz (fun n H' _ _ Q z => ⟨_, rfl, z⟩) fun ps H1 e1 h1 h2 => hd ps H1 e1 h1 ?_
      simpa using h2
    have go : ∀ (H1 : Hp) (D : Addr) (ps : List Addr), Ex H H1 → H1 D = some (.lst (ps.map V.ref)) → Paired (fun p kv => H1 p = some (.tup [kV kv.1, kv.2])) ps (kvT rs) → ∀ (d : Addr), H1 d = none →
        Ex H (upd H1 d (.dK (mergeK [] (kvT rs)))) ∧ KnAt (upd H1 d (.dK (mergeK [] (kvT rs)))) d g b0 := fun H1 D ps e1 _ _ d nd =>
      ⟨ex_up e1 nd, uniq rs, by rw [upd_same, merge_kvT], uniq_nd rs, Nat.le_trans (uniq_len rs) hz, fun n => by rw [uniq_mem]; exact hrs n⟩
    have fin : ∀ (H1 : Hp) (D : Addr) (ps : List Addr), Ex H H1 → H1 D = some (.lst (ps.map V.ref)) → Paired (fun p kv => H1 p = some (.tup [kV kv.1, kv.2])) ps (kvT rs) →
        ∃ (a : Addr) (qs : List Addr) (kvs : List (Key × V)), [V.ref D] = [.ref a] ∧ SqL K H1 a (qs.map V.ref) ∧ Paired (fun p kv => SqT K H1 p [kV kv.1, kv.2]) qs kvs ∧ ∀ d, H1 d = none →
          (fun σ' H' => ∃ d, σ' = [some (.int (b0 : Int)), some (.ref r), some (.ref d), none, none, none, none, none] ∧ Ex H H' ∧ KnAt H' d g b0) ((start nLB [V.int (b0 : Int), V.ref r]).set 2 (some (.ref d))) (upd H1 d (.dK (mergeK [] kvs))) :=
      fun H1 D ps e1 h1 h2 => ⟨D, ps, _, rfl, sq_of h1, L2.Paired.mapP h2 fun _ _ z => st_of z, fun d nd => ⟨d, rfl, (go H1 D ps e1 h1 h2 d nd).1, (go H1 D ps e1 h1 h2 d nd).2⟩⟩
    refine ⟨fun σ' H' => ∃ d, σ' = [some (.int (b0 : Int)), some (.ref r), some (.ref d), none, none, none, none, none] ∧ Ex H H' ∧ KnAt H' d g b0, ?_, ?_⟩
    · rcases hS with hS | hS
      · exact .inl ⟨_, rfl, r, rfl, ⟨_, hS⟩, fun D nD => first _ D _ (wk_list hS) nD fun ps H1 e1 h1 h2 => fin H1 D ps e1 h1 h2⟩
      · exact .inr ⟨_, rfl, r, rfl, ⟨_, hS⟩, fun D nD => first _ D _ (wk_tup hS) nD fun ps H1 e1 h1 h2 => fin H1 D ps e1 h1 h2⟩
    · rintro σ1 H1 ⟨d, rfl, e1, kn⟩
      -- for prime, often in apart_of(base)
      refine ⟨_, rfl, b0, rfl, hb0, hb1, fun t ps H2 e2 ht hps => ?_⟩
      have hsim : sim p (flat (ap b0)) b0 = true := sim_ok b0 hb1 p (by
        have := Nat.le_of_dvd hb0 (hpd b0 hg)
        omega) hb0 hp (hpd b0 hg)
      refine ⟨t, rfl, ⟨_, st_of ht⟩, for_tup (xs := ps.map V.ref) (fun i σ H3 => Ex H2 H3 ∧ ∃ x3 x4, LbW H r g b0 p (flat ((ap b0).drop i)) x3 x4 σ H3) ⟨Ex.refl _, none, none, b0, d, none, none, none, rfl, e1.trans e2, ?_, hb0, Nat.le_refl _, hg, hsim⟩ (fun i σ H3 _ z => st_of (z.1 _ _ ht)) ?_ ?_⟩
      · obtain ⟨ns, k1, k2⟩ := kn
        exact ⟨ns, e2 _ _ k1, k2⟩
      · rintro i x σ H3 hi ⟨e3, x3, x4, b, d, x5, x6, x7, rfl, eH, hkn, hb, hbb, hgb, hs⟩
        obtain ⟨pi, hpi, rfl⟩ : ∃ pi, ps[i]? = some pi ∧ x = V.ref pi := by
          rw [List.getElem?_map] at hi
          cases hq : ps[i]? with
          | none =>
            rw [hq] at hi
            cases hi
          | some pi =>
            rw [hq] at hi
            exact ⟨pi, rfl, (Option.some.inj hi).symm⟩
        have hil : i < (ap b0).length := by
          rw [← hps.1]
          exact (List.getElem?_eq_some_iff.mp hpi).1
        obtain ⟨qo, hqo⟩ : ∃ qo, (ap b0)[i]? = some qo := ⟨_, List.getElem?_eq_getElem hil⟩
        obtain ⟨hq1, hq2, hq3⟩ := ap_ok b0 hb1 qo (List.mem_of_getElem? hqo)
        have htup := e3 _ _ (hps.2 i pi qo hpi hqo)
        rw [flat_drop hqo] at hs
        obtain ⟨pq, po⟩ := qo
        simp only at hq1 hq2 hq3 htup hs
        refine ⟨pi, _, rfl, st_of htup, rfl, _, _, rfl, _, _, rfl, rfl, ?_⟩
        -- for turn in range(often)
        refine ⟨_, rfl, _, rfl, by omega, by omega, for_range (lo := 0) (n := po) (fun j σ H4 => Ex H3 H4 ∧ LbW H r g b0 p (List.replicate (po - j) pq ++ flat ((ap b0).drop (i + 1))) (some (.int (pq : Int))) (some (.int (po : Int))) σ H4) ⟨Ex.refl _, b, d, x5, x6, x7, rfl, eH, hkn, hb, hbb, hgb, hs⟩ ?_ ?_⟩
        · rintro j σ H4 hj ⟨e4, b, d, x5, x6, x7, rfl, eH, hkn, hb, hbb, hgb, hs⟩
          rw [show po - j = (po - (j + 1)) + 1 by omega, List.replicate_succ, List.cons_append] at hs
          obtain ⟨s1, s2, s3⟩ := sim_cons hs
          obtain ⟨ns, hd, hnd, hnl, hmem⟩ := hkn
          -- less = base // prime
          refine ⟨_, rfl, _, rfl, _, _, rfl, rfl, ⟨by omega, by omega⟩, ?_⟩
          have hrm : 0 < b / pq := s2
          refine ⟨d, _, hd, trivial, fun od => ⟨_, rfl, d, od, rfl, .inl ⟨kvT ns, upd_same, fun D nD => lc_all (vf := fun n => .bl (decide ((n + b / pq) % b ∈ ns))) (wk_keys upd_same) nD hnl (fun n H5 hm e5 Q' z => ?_) (fun H5 e5 hl => ?_)⟩⟩⟩
          · refine ⟨_, rfl, _, rfl, _, _, rfl, rfl, _, rfl, _, _, rfl, rfl, (by show (0 : Int) < b; omega), _, rfl, d, _, rfl, .inl ⟨kvT ns, .inl (((n + b / pq) % b : Nat) : Int), .inr ⟨od, e5 _ _ upd_same⟩, rfl, rfl⟩, ?_⟩
            have z := z H5 (Ex.refl _)
            rw [← valV_kvT] at z
            exact z
          · have e6 : Ex H4 (upd H5 d (.dK (kvT ns))) := ex_unlock e5 hd
            have hD6 : upd H5 d (.dK (kvT ns)) D = some (.lst ((ns.map fun n => decide ((n + b / pq) % b ∈ ns)).map V.bl)) := by
              rw [upd_ne (ne_of hl (e5 _ _ upd_same) (by intro z; cases z)), hl, List.map_map]
              rfl
            have hT : ((ns.map fun n => decide ((n + b / pq) % b ∈ ns)).all id = true) ↔ p ∣ b / pq := by
              rw [← test_iff hb hgb hpg hpd, List.all_map, List.all_eq_true]
              constructor
              · intro t n hn hgn
                have t1 := of_decide_eq_true (t n ((hmem n).mpr ⟨hn, hgn⟩))
                exact ((hmem _).mp t1).2
              · intro t n hn
                obtain ⟨h1, h2⟩ := (hmem n).mp hn
                exact decide_eq_true ((hmem _).mpr ⟨Nat.mod_lt _ hb, t n h1 h2⟩)
            refine ⟨e5 _ _ upd_same, D, _, rfl, sq_of hD6, _, rfl, itB (fun hc => ?_) (fun hc => ?_)⟩
            · -- base, known = less, ..
              have hdv := hT.mp hc
              rw [if_pos hdv] at s3
              have hpl : PerAll g (b / pq) := hpg.of_dvd hdv
              refine ⟨_, rfl, d, _, upd_same, trivial, fun od2 => ⟨_, rfl, d, od2, rfl, .inl ⟨kvT ns, upd_same, fun D2 nD2 => lc_kv (hf := fun n => n % (b / pq)) (wk_keys upd_same) nD2 hnl (fun n H7 hm e7 Q' z => ⟨_, rfl, _, rfl, _, _, rfl, rfl, (by show (0 : Int) < ((b / pq : Nat) : Int); omega), z⟩) (fun ps2 H7 e7 h1 h2 => ?_)⟩⟩⟩
              have e8 : Ex (upd H5 d (.dK (kvT ns))) (upd H7 d (.dK (kvT ns))) := ex_unlock e7 upd_same
              have hfz := e7 _ _ upd_same
              have hD8 : upd H7 d (.dK (kvT ns)) D2 = some (.lst (ps2.map V.ref)) := by
                rw [upd_ne (ne_of h1 hfz (by intro z; cases z))]
                exact h1
              refine ⟨hfz, D2, ps2, _, rfl, sq_of hD8, L2.Paired.mapP h2 fun a kv z => st_of (by rw [upd_ne (ne_of z hfz (by intro z; cases z))]; exact z), fun d2 nd2 => ⟨(by show 2 ≤ sizeLine; decide), fun u nu => ⟨u, _, rfl, st_of upd_same, rfl, _, _, rfl, _, _, rfl, rfl, ?_⟩⟩⟩
              have e9 := ex_up (o := .dK (mergeK [] (kvT (ns.map fun n => n % (b / pq))))) ((eH.trans e6).trans e8) nd2
              have e10 := ex_up (o := .tup [.int ((b / pq : Nat) : Int), .ref d2]) e9 nu
              have f9 := ex_up (o := .dK (mergeK [] (kvT (ns.map fun n => n % (b / pq))))) ((e4.trans e6).trans e8) nd2
              have f10 := ex_up (o := .tup [.int ((b / pq : Nat) : Int), .ref d2]) f9 nu
              refine ⟨f10, b / pq, d2, _, _, x7, rfl, e10, ⟨uniq (ns.map fun n => n % (b / pq)), ?_, uniq_nd _, Nat.le_trans (uniq_len _) (by rw [List.length_map]; exact hnl), fun n => ?_⟩, hrm, Nat.le_trans (Nat.div_le_self b pq) hbb, hpl, s3⟩
              · rw [upd_ne (ne_of_none (show upd (upd H7 d (.dK (kvT ns))) d2 _ d2 = some _ from upd_same) nu), upd_same, merge_kvT]
              · rw [uniq_mem, List.mem_map]
                constructor
                · rintro ⟨m, hm, rfl⟩
                  obtain ⟨h3, h4⟩ := (hmem m).mp hm
                  exact ⟨Nat.mod_lt _ hrm, by rw [hpl.mod_]; exact h4⟩
                · rintro ⟨h3, h4⟩
                  exact ⟨n, (hmem n).mpr ⟨Nat.lt_of_lt_of_le h3 (Nat.div_le_self b pq), h4⟩, Nat.mod_eq_of_lt h3⟩
            · have hdv : ¬ p ∣ b / pq := fun z => by
                rw [hT.mpr z] at hc
                cases hc
              rw [if_neg hdv] at s3
              refine ⟨e4.trans e6, b, d, _, _, x7, rfl, eH.trans e6, ⟨ns, upd_same, hnd, hnl, hmem⟩, hb, hbb, hgb, s3⟩
        · rintro σ H4 ⟨e4, hw⟩
          refine ⟨e3.trans e4, some (.int (pq : Int)), some (.int (po : Int)), ?_⟩
          rw [Nat.sub_self] at hw
          exact hw
      · rintro σ H3 ⟨e3, x3, x4, b, d, x5, x6, x7, rfl, eH, hkn, hb, hbb, hgb, hs⟩
        have hend : b = p := by
          rw [List.length_map, hps.1, List.drop_length] at hs
          exact beq_iff_eq.mp hs
        subst hend
        refine ⟨_, rfl, _, rfl, (by show 2 ≤ sizeLine; decide), fun u nu => ?_⟩
        obtain ⟨ns, k1, k2⟩ := hkn
        refine q u d b _ (ex_up eH nu) upd_same ⟨ns, ?_, k2⟩ hb hbb hgb hpd
        rw [upd_ne (ne_of_none k1 nu)]
        exact k1
end
end K67
set_option Elab.async false
set_option linter.all false
set_option maxRecDepth 100000
set_option maxHeartbeats 4000000
namespace K67
open PySem L2 Evl
section
variable {P : Program} {w : World} {K : PySem.W.Frag} {mg : Str → Option Value} {base : Heap}
/-! ### is_integer, is_between, check_between -/
abbrev sIsInt : Stmt := topS 9
theorem scIsInt : FnScope ["value"] ["value"] (defScope sIsInt) := ⟨rfl, rfl, rfl, by decide +kernel, rfl, by decide +kernel, by decide +kernel⟩
def spIsInt : Sp := fun vs H Q _ => ∃ i : Int, vs = [.int i] ∧ Q (.bl true) H
theorem ok_isInt {f : Addr} {fd : FuncData} (F : Fun K "is_integer" "is_integer" sIsInt f fd) (B : Bt mg) : FnOk P w K mg base CX0 1 f fd ["value"] spIsInt := by
  refine F.ok scIsInt (fun vs H Q E h => ?_) (fun cdv A outer s H vs Q E hr h => ?_)
  · obtain ⟨i, rfl, _⟩ := h
    rfl
  · obtain ⟨i, rfl, q⟩ := h
    refine ⟨_, pss_one (ps_ret (pe_and (pe_callB call_isi (by rfl) B.isinstance (by decide +kernel) (pa_cons (pv 0) (pa_cons (pe_bltn (v := .ty "int") (by rfl) B.int (by decide +kernel) rfl) pa_nil)))
      (pe_one (pe_not (pe_callB call_isi (by rfl) B.isinstance (by decide +kernel) (pa_cons (pv 0) (pa_cons (pe_bltn (v := .ty "bool") (by rfl) B.bool (by decide +kernel) rfl) pa_nil))))))), ?_⟩
    refine ⟨_, rfl, _, _, .type "int", _, true, rfl, .ty "int", .base (.int i), kit_ty (by decide +kernel), _, rfl, itT rfl ?_⟩
    refine ⟨_, rfl, _, _, .type "int", _, false, rfl, .ty "bool", .base (.int i), kit_ty (by decide +kernel), _, rfl, ?_⟩
    exact q
abbrev sIsBetween : Stmt := topS 10
theorem scIsBetween : FnScope ["value", "least", "most"] ["value", "least", "most"] (defScope sIsBetween) := ⟨rfl, rfl, rfl, by decide +kernel, rfl, by decide +kernel, by decide +kernel⟩
def spIsBetween : Sp := fun vs H Q _ => ∃ i a b : Int, vs = [.int i, .int a, .int b] ∧ a ≤ i ∧ i ≤ b ∧ Q (.bl true) H
theorem ok_isBetween {f : Addr} {fd : FuncData} (F : Fun K "is_between" "is_between" sIsBetween f fd) (GI : Fn P w K mg base 1 "is_integer" ["value"] spIsInt) : FnOk P w K mg base CX0 2 f fd ["value", "least", "most"] spIsBetween := by
  refine F.ok scIsBetween (fun vs H Q E h => ?_) (fun cdv A outer s H vs Q E hr h => ?_)
  · obtain ⟨i, a, b, rfl, _⟩ := h
    rfl
  · obtain ⟨i, a, b, rfl, h1, h2, q⟩ := h
    refine ⟨_, pss_one (ps_ret (pe_and (pe_fn GI hr (by rfl) (pa_cons (pv 0) pa_nil)) (pe_one (pe_chain op_le op_le (pv 1) (pv 0) (pv 2))))), ?_⟩
    refine ⟨_, rfl, i, rfl, _, rfl, itT rfl ?_⟩
    refine ⟨_, rfl, _, rfl, _, _, rfl, rfl, _, rfl, itT (decide_eq_true h1) ⟨_, rfl, _, _, rfl, rfl, ?_⟩⟩
    show Q (.bl (decide (i ≤ b))) H
    rw [decide_eq_true h2]
    exact q
abbrev sCheckBetween : Stmt := topS 11
theorem scCheckBetween : FnScope ["value", "least", "most"] ["value", "least", "most"] (defScope sCheckBetween) := ⟨rfl, rfl, rfl, by decide +kernel, rfl, by decide +kernel, by decide +kernel⟩
def spCheckBetween : Sp := fun vs H Q _ => ∃ i a b : Int, vs = [.int i, .int a, .int b] ∧ a ≤ i ∧ i ≤ b ∧ Q .non H
theorem ok_checkBetween {f : Addr} {fd : FuncData} (F : Fun K "check_between" "check_between" sCheckBetween f fd) (GI : Fn P w K mg base 2 "is_between" ["value", "least", "most"] spIsBetween) : FnOk P w K mg base CX0 3 f fd ["value", "least", "most"] spCheckBetween := by
  refine F.ok scCheckBetween (fun vs H Q E h => ?_) (fun cdv A outer s H vs Q E hr h => ?_)
  · obtain ⟨i, a, b, rfl, _⟩ := h
    rfl
  · obtain ⟨i, a, b, rfl, h1, h2, q⟩ := h
    refine ⟨_, pss_one (ps_if (pt_not (pt_val (pe_fn GI hr (by rfl) (pa_cons (pv 0) (pa_cons (pv 1) (pa_cons (pv 2) pa_nil)))))) (pss_one ps_never) pss_nil), ?_⟩
    refine ⟨_, rfl, _, rfl, _, rfl, i, a, b, rfl, h1, h2, _, rfl, itF rfl ?_⟩
    exact q
/-! ### rising_fault -/
abbrev sRising : Stmt := topS 17
theorem scRising : FnScope ["value", "most", "index", "number"] ["value", "most"] (defScope sRising) := ⟨rfl, rfl, rfl, by decide +kernel, rfl, by decide +kernel, by decide +kernel⟩
/-- a for over anything -/
theorem for_any {J : It} {n : Nat} {g : TG} {tb : TS} {D : Ends} {σ : L2.St} {H : Hp} (Pv : Nat → L2.St → Hp → Prop) (go : ∀ i σ H, i < n → Pv i σ H → J.go i H) (stop : ∀ σ H, Pv n σ H → J.stop n H) (h0 : Pv 0 σ H)
    (hs : ∀ i x σ H H', i < n → Pv i σ H → J.yld i H x H' → g x σ H' fun σ2 H2 => tb { D with nx := Pv (i + 1), ct := Pv (i + 1), bk := D.nx } σ2 H2) (hd : ∀ σ H, Pv n σ H → D.nx σ H) :
    ∃ W : Nat → Nat → L2.St → Hp → Prop, (∃ m, W 0 m σ H) ∧ ∀ i m σ H, W i m σ H →
      (J.stop i H ∧ D.nx σ H) ∨ (J.go i H ∧ ∃ N : L2.St → Hp → Prop, (∀ σ' H', N σ' H' → ∃ m', m' < m ∧ W (i + 1) m' σ' H') ∧ ∀ x H', J.yld i H x H' → g x σ H' fun σ2 H2 => tb { D with nx := N, ct := N, bk := D.nx } σ2 H2) := by
  refine ⟨fun i m σ H => m = n - i ∧ i ≤ n ∧ Pv i σ H, ⟨n, by omega, Nat.zero_le _, h0⟩, ?_⟩
  rintro i m σ H ⟨rfl, hi, p⟩
  by_cases hlt : i < n
  · exact .inr ⟨go i σ H hlt p, Pv (i + 1), fun σ' H' p' => ⟨n - (i + 1), by omega, rfl, hlt, p'⟩, fun x H' y => hs i x σ H H' hlt p y⟩
  · have e : i = n := by omega
    subst e
    exact .inl ⟨stop σ H p, hd σ H p⟩
def spRising : Sp := fun vs H Q _ => ∃ (e : Addr) (es : List Nat) (m : V), vs = [.ref e, m] ∧ H e = some (.tup (iv es)) ∧ es.Pairwise (· < ·) ∧ (m = .non ∨ ∃ M : Int, m = .int M ∧ ∀ n ∈ es, (n : Int) ≤ M) ∧ ∀ H', Ex H H' → Q (.int (-1)) H'
theorem ok_rising {f : Addr} {fd : FuncData} (F : Fun K "rising_fault" "rising_fault" sRising f fd) (B : Bt mg) (GI : Fn P w K mg base 1 "is_integer" ["value"] spIsInt) : FnOk P w K mg base CX0 2 f fd ["value", "most"] spRising := by
  refine F.ok scRising (fun vs H Q E h => ?_) (fun cdv A outer s H vs Q E hr h => ?_)
  · obtain ⟨e, es, m, rfl, _⟩ := h
    rfl
  · obtain ⟨e, es, m, rfl, he, hp, hm, q⟩ := h
    refine ⟨_, pss_cons (ps_if (pt_not (pt_val (pe_callB call_isi (by rfl) B.isinstance (by decide +kernel) (pa_cons (pv 0) (pa_cons (pe_bltn (v := .ty "tuple") (by rfl) B.tuple (by decide +kernel) rfl) pa_nil))))) (pss_one ps_never) pss_nil)
      (pss_cons (ps_for PassesOwn.never rfl (K67R.pi_enumT (by rfl) B.enumerate (pa_cons (pv 0) pa_nil)) (pg_tup rfl (pgs_cons (pg_name (i := 2) scRising.nd rfl (.inl rfl)) (pgs_cons (pg_name (i := 3) scRising.nd rfl (.inl rfl)) pgs_nil)))
        (pss_cons (ps_if (PW.pt (pw_or (pt_not (pt_val (pe_fn GI hr (by rfl) (pa_cons (pv 3) pa_nil)))) (pw_or (pt_cmpR op_lt (pv 3) pe_int (nomark _)) (pw_or1 (PW.pt (pw_and (pt_cmpR op_notN (pv 1) pe_non (nomark _)) (pw_and1 (pt_cmpR op_gt (pv 3) (pv 1) (nomark _))))))))) (pss_one ps_never) pss_nil)
        (pss_one (ps_if (PW.pt (pw_and (pt_cmpR op_gt (pv 2) pe_int (nomark _)) (pw_and1 (pt_cmpR op_le (pv 3) (pe_ix ix_tup (pv 0) (pe_op op_sub (pv 2) pe_int) (fun _ _ => rfl)) (nomark _))))) (pss_one ps_never) pss_nil))))
      (pss_one (ps_ret (pe_un un_neg pe_int)))), ?_⟩
    refine ⟨_, rfl, _, _, .type "tuple", _, true, rfl, .ty "tuple", .base (.tup he), kit_ty (by decide +kernel), _, rfl, itF rfl ?_⟩
    refine ⟨_, rfl, e, iv es, rfl, st_of he, for_any (n := es.length) (fun i σ H2 => ∃ x2 x3, σ = [some (.ref e), some m, x2, x3] ∧ Ex H H2)
      (fun i σ H2 hi ⟨_, _, _, e2⟩ => ⟨iv es, _, st_of (e2 _ _ he), iv_at (List.getElem?_eq_getElem hi)⟩) (fun σ H2 ⟨_, _, _, e2⟩ => ⟨iv es, st_of (e2 _ _ he), by rw [iv_len]; exact Nat.le_refl _⟩) ⟨none, none, rfl, Ex.refl _⟩ ?_ ?_⟩
    · rintro i x σ H2 H' hi ⟨x2, x3, rfl, e2⟩ ⟨T, y, rfl, nT, rfl, hy⟩
      have hn : es[i]? = some es[i] := List.getElem?_eq_getElem hi
      have hy := hy _ (st_of (e2 _ _ he))
      rw [iv_at hn] at hy
      cases hy
      have e3 : Ex H (upd H2 T (.tup [.int (i : Nat), .int (es[i] : Int)])) := ex_up e2 nT
      refine ⟨T, _, rfl, st_of upd_same, rfl, _, _, rfl, _, _, rfl, rfl, ?_⟩
      refine ⟨_, rfl, _, rfl, _, rfl, itF rfl ?_⟩
      refine ⟨_, rfl, _, _, rfl, rfl, _, rfl, itF (decide_eq_false (by omega)) ?_⟩
      have second : ∀ D : Ends, D.nx [some (.ref e), some m, some (.int (i : Nat)), some (.int (es[i] : Int))] (upd H2 T (.tup [.int (i : Nat), .int (es[i] : Int)])) →
          tIfS (tAnd (tTest (tOp (rI0 fun i j => .bl (decide (j < i))) (tVar 2) (tC (.int 0)))) (tTest (tOp (rI0 fun i j => .bl (decide (i ≤ j))) (tVar 3) (tOp (rIxT K) (tVar 0) (tOp (rI0 fun i j => .int (i - j)) (tVar 2) (tC (.int 1))))))) tNever tNext D
            [some (.ref e), some m, some (.int (i : Nat)), some (.int (es[i] : Int))] (upd H2 T (.tup [.int (i : Nat), .int (es[i] : Int)])) := fun D z => by
        refine ⟨_, rfl, _, _, rfl, rfl, _, rfl, itB (fun hb => ?_) (fun hb => itF rfl z)⟩
        have hb : (0 : Int) < (i : Int) := of_decide_eq_true hb
        have hi1 : i - 1 < es.length := by omega
        have hlt : es[i - 1] < es[i] := List.pairwise_iff_getElem.mp hp (i - 1) i hi1 hi (by omega)
        refine ⟨_, rfl, _, rfl, _, rfl, _, _, rfl, rfl, e, iv es, _, .int (es[i - 1] : Int), rfl, rfl, st_of (e3 _ _ he), ?_, _, _, rfl, rfl, _, rfl, itF (decide_eq_false (by omega)) z⟩
        have e4 : ((i : Nat) : Int) - 1 = ((i - 1 : Nat) : Int) := by omega
        show atI (iv es) (((i : Nat) : Int) - 1) = _
        rw [e4]
        exact atI_nat (iv_at (List.getElem?_eq_getElem hi1))
      rcases hm with rfl | ⟨M, rfl, hM⟩
      · refine ⟨_, rfl, rfl, _, rfl, itF rfl (itF rfl ?_)⟩
        exact second _ ⟨_, _, rfl, e3⟩
      · refine ⟨_, rfl, rfl, _, rfl, itT rfl ⟨_, rfl, _, rfl, _, _, rfl, rfl, _, rfl, itF (decide_eq_false (by
          have := hM _ (List.getElem_mem hi)
          omega)) ?_⟩⟩
        exact second _ ⟨_, _, rfl, e3⟩
    · rintro σ H2 ⟨x2, x3, rfl, e2⟩
      exact ⟨_, rfl, q _ e2⟩
end
end K67
set_option Elab.async false
set_option linter.all false
set_option maxRecDepth 100000
set_option maxHeartbeats 8000000
namespace K67
open PySem L2 Evl
/-- the form's tuple -/
def FormAt (H : Hp) (t : Addr) (F : Frm) : Prop := ∃ te tr, H t = some (.tup [.ref te, .int (F.start : Int), .int (F.base : Int), .ref tr]) ∧ H te = some (.tup (iv F.early)) ∧ H tr = some (.tup (iv F.rests))
theorem FormAt.ex {H H' : Hp} {t : Addr} {F : Frm} (h : FormAt H t F) (e : Ex H H') : FormAt H' t F := by
  obtain ⟨te, tr, h1, h2, h3⟩ := h
  exact ⟨te, tr, e _ _ h1, e _ _ h2, e _ _ h3⟩
section
variable {P : Program} {w : World} {K : PySem.W.Frag} {mg : Str → Option Value} {base : Heap}
abbrev sLF : Stmt := topS 19
theorem scLF : FnScope ["early", "start", "base", "rests", "known", "inside"] ["early", "start", "base", "rests"] (defScope sLF) := ⟨rfl, rfl, rfl, by decide +kernel, rfl, by decide +kernel, by decide +kernel⟩
def spLF (K : PySem.W.Frag) : Sp := fun vs H Q _ => ∃ (e r : Addr) (s b : Nat) (es rs : List Nat) (f : Nat → Bool), vs = [.ref e, .int (s : Int), .int (b : Int), .ref r] ∧ Sq K H e (iv es) ∧ Sq K H r (iv rs) ∧ Pre f es s b rs ∧ b < 31 ∧ s ≤ 1000 ∧
  ∀ (t : Addr) (F : Frm) (H' : Hp), Ex H H' → FormAt H' t F → IsForm f F → Q (.ref t) H'
theorem iv_app (l m : List Nat) : iv (l ++ m) = iv l ++ iv m := by
  unfold iv
  rw [List.map_append]
theorem last_case (f : Nat → Bool) (k : Nat) : (f k = true ∧ (List.range (k + 1)).filter f = (List.range k).filter f ++ [k]) ∨ (f k = false ∧ (List.range (k + 1)).filter f = (List.range k).filter f ∧
    ((List.range k).filter f = [] ∨ ∃ L z, (List.range k).filter f = L ++ [z] ∧ z < k)) := by
  have h := filter_succ f k
  cases hf : f k with
  | true =>
    rw [hf] at h
    exact .inl ⟨rfl, h⟩
  | false =>
    rw [hf] at h
    refine .inr ⟨rfl, by simpa using h, ?_⟩
    rcases List.eq_nil_or_concat ((List.range k).filter f) with e | ⟨L, z, e⟩
    · exact .inl e
    · refine .inr ⟨L, z, by simpa using e, ?_⟩
      have : z ∈ (List.range k).filter f := by
        rw [e]
        simp
      simpa using (List.mem_filter.mp this).1
theorem ok_lf {f : Addr} {fd : FuncData} (F : Fun K "least_form" "least_form" sLF f fd) (B : Bt mg) (GL : Fn P w K mg base 2 "least_base" ["base", "rests"] (spLB K)) : FnOk P w K mg base CX0 3 f fd ["early", "start", "base", "rests"] (spLF K) := by
  refine F.ok scLF (fun vs H Q E h => ?_) (fun cdv A outer sh H vs Q E hr h => ?_)
  · obtain ⟨e, r, s, b, es, rs, u, rfl, _⟩ := h
    rfl
  · obtain ⟨e, r, s, b, es, rs, u, rfl, hE, hR, hp, hb, hs, q⟩ := h
    refine ⟨_, pss_cons (ps_asg (pe_fn GL hr (by rfl) (pa_cons (pv 2) (pa_cons (pv 3) pa_nil))) (pg_tup rfl (pgs_cons (pg_name (i := 2) scLF.nd rfl (.inl rfl)) (pgs_cons (pg_name (i := 4) scLF.nd rfl (.inl rfl)) pgs_nil))))
      (pss_cons (ps_set (i := 5) scLF.nd rfl (.inl rfl) (pe_callTy call_list_of (by rfl) B.list (by decide +kernel) (pa_cons (pv 0) pa_nil)))
      (pss_cons (ps_while PassesOwn.never (PW.pt (pw_and (pt_cmpR op_gt (pv 1) pe_int (nomark _)) (pw_and1 (pt_cmpR op_eq
            (pe_and (pe_cmpR op_gt (pe_callB call_len_seq (by rfl) B.len PySem.boot_len (pa_cons (pv 5) pa_nil)) pe_int (nomark _)) (pe_one (pe_cmpR op_eq (pe_ix ix_list (pv 5) (pe_un un_neg pe_int) (fun _ _ => rfl)) (pe_op op_sub (pv 1) pe_int) (nomark _))))
            (pe_cmp (pc_din (hu_of hr) (pe_op op_mod (pe_op op_sub (pv 1) pe_int) (pv 2)) (pv 4))) (nomark _)))))
          (pss_cons (ps_set (i := 1) scLF.nd rfl (.inl rfl) (pe_op op_sub (pv 1) pe_int))
          (pss_one (ps_if (PW.pt (pw_and (pt_cmpR op_gt (pe_callB call_len_seq (by rfl) B.len PySem.boot_len (pa_cons (pv 5) pa_nil)) pe_int (nomark _)) (pw_and1 (pt_cmpR op_eq (pe_ix ix_list (pv 5) (pe_un un_neg pe_int) (fun _ _ => rfl)) (pv 1) (nomark _)))))
            (pss_one (ps_expr (pe_bm0 PySem.F.plainAttrs_list PySem.F.slot_list_pop PySem.F.type_list_pop mt_pop (pv 5)))) pss_nil))))
      (pss_one (ps_ret (pe_tup (pa_cons (pe_callTy call_tuple_of (by rfl) B.tuple (by decide +kernel) (pa_cons (pv 5) pa_nil)) (pa_cons (pv 1) (pa_cons (pv 2) (pa_cons
        (pe_callTy call_tuple_of (by rfl) B.tuple (by decide +kernel) (pa_cons (pe_callB cr_sortedI (by rfl) B.sorted (by decide +kernel) (pa_cons (pe_callTy (call_list_dK rfl) (by rfl) B.list (by decide +kernel) (pa_cons (pv 4) pa_nil)) pa_nil)) pa_nil)) pa_nil))))))))), ?_⟩
    -- base, known = least_base(base, rests)
    have hg : PerAll (fun x => u (x + b * s)) b := tail_all hp.per hp.pos
    have hrl : rs.length ≤ 1000 := by
      rw [hp.rst]
      have := List.length_filter_le (fun r => u (r + b * s)) (List.range b)
      rw [List.length_range] at this
      omega
    refine ⟨_, rfl, _, rfl, b, r, rs, fun x => u (x + b * s), rfl, hp.pos, hb, hR, hrl, hg, fun n => ?_, fun t d p H1 e1 ht kn hp0 hpb hpg hpd => ?_⟩
    · rw [hp.rst, List.mem_filter, List.mem_range]
    refine ⟨t, _, rfl, st_of ht, rfl, _, _, rfl, _, _, rfl, rfl, ?_⟩
    -- inside = list(early)
    have hE1 := hE.ex e1
    refine ⟨_, rfl, e, _, rfl, hE1, fun l nl => ?_⟩
    obtain ⟨ns, k1, k2, k3, k4⟩ := kn
    -- the while
    refine ⟨fun m σ H2 => σ = [some (.ref e), some (.int (m : Int)), some (.int (p : Int)), some (.ref r), some (.ref d), some (.ref l)] ∧ Ex H1 H2 ∧ H2 l = some (.lst (iv ((List.range m).filter u))) ∧ m ≤ s ∧ ∀ x, m ≤ x → u x = u (x + b * s),
      ⟨s, rfl, Ex.new nl, by rw [upd_same, ← hp.earl], Nat.le_refl _, fun x hx => (tail_eq hp.per x hx).symm⟩, ?_⟩
    rintro m σ H2 ⟨rfl, e2, hl, hm, htl⟩
    have fin : (m = 0 ∨ u (m - 1) ≠ u (m - 1 + b * s)) → ∀ D : Ends, D.rt = Q → tRet (tTup (tCons (tCB (fun xs H Q => ∃ p ys, xs = [V.ref p] ∧ ((SqL K H p ys ∧ ∀ l, H l = none → Q (.ref l) (upd H l (.tup ys))) ∨ (SqT K H p ys ∧ Q (.ref p) H))) (tCons (tVar 5) tNil)) (tCons (tVar 1) (tCons (tVar 2) (tCons
        (tCB (fun xs H Q => ∃ p ys, xs = [V.ref p] ∧ ((SqL K H p ys ∧ ∀ l, H l = none → Q (.ref l) (upd H l (.tup ys))) ∨ (SqT K H p ys ∧ Q (.ref p) H))) (tCons (tCB (rSortedI K) (tCons (tCB rListD (tCons (tVar 4) tNil)) tNil)) tNil)) tNil))))) D
        [some (.ref e), some (.int (m : Int)), some (.int (p : Int)), some (.ref r), some (.ref d), some (.ref l)] H2 := fun hlow D hD => by
      refine ⟨_, rfl, l, _, rfl, .inl ⟨sq_of hl, fun te nte => ?_⟩⟩
      have f3 := ex_up (o := .tup (iv ((List.range m).filter u))) e2 nte
      refine ⟨_, rfl, _, rfl, _, rfl, d, kvT ns, rfl, f3 _ _ k1, fun a na => ?_⟩
      have hkeys : (kvT ns).map (fun kv => kV kv.1) = (zs ns).map V.int := by
        unfold kvT zs
        rw [List.map_map, List.map_map]
        rfl
      refine ⟨a, zs ns, rfl, sq_of (by rw [upd_same, hkeys]), fun ns' b2 hperm hrise nb => ?_⟩
      refine ⟨b2, _, rfl, .inl ⟨sq_of upd_same, fun tr ntr => ⟨(by show 4 ≤ sizeLine; decide), fun t2 nt2 => ?_⟩⟩⟩
      have hns : ns' = zs ((List.range p).filter fun x => u (x + b * s)) := sorted_is k2 hperm hrise (range_strict _ _) fun n => by
        rw [k4, List.mem_filter, List.mem_range]
      rw [hD]
      have g1 := ex_up (o := .lst ((kvT ns).map (fun kv => kV kv.1))) f3 na
      have g2 := ex_up (o := .lst (ns'.map V.int)) g1 nb
      have g3 := ex_up (o := .tup (ns'.map V.int)) g2 ntr
      have g4 := ex_up (o := .tup [.ref te, .int (m : Int), .int (p : Int), .ref tr]) g3 nt2
      have c1 : Ex (upd H2 te (.tup (iv ((List.range m).filter u)))) _ := ((Ex.new (o := .lst ((kvT ns).map (fun kv => kV kv.1))) na).trans (Ex.new (o := .lst (ns'.map V.int)) nb)).trans ((Ex.new (o := .tup (ns'.map V.int)) ntr).trans (Ex.new (o := .tup [.ref te, .int (m : Int), .int (p : Int), .ref tr]) nt2))
      refine q t2 ⟨(List.range m).filter u, m, p, (List.range p).filter fun x => u (x + b * s)⟩ _ (e1.trans g4) ⟨te, tr, upd_same, c1 _ _ upd_same, ?_⟩ (least_form hp0 hpg hpd htl hlow)
      show _ = some (HO.tup (iv ((List.range p).filter fun x => u (x + b * s))))
      have e5 : iv ((List.range p).filter fun x => u (x + b * s)) = ns'.map V.int := by
        rw [iv_ints, ← hns]
      rw [e5]
      exact Ex.new nt2 _ _ upd_same
    refine ⟨_, rfl, _, _, rfl, rfl, _, rfl, itB (fun hc => ?_) (fun hc => ?_)⟩
    · have hc : (0 : Int) < (m : Int) := of_decide_eq_true hc
      obtain ⟨k, rfl⟩ : ∃ k, m = k + 1 := ⟨m - 1, by omega⟩
      have ek : ((k + 1 : Nat) : Int) - 1 = (k : Int) := by omega
      have hkd : decide (k % p ∈ ns) = u (k + b * s) := by
        rw [Bool.eq_iff_iff, decide_eq_true_iff, k4, show (k + b * s) = (k + b * s) from rfl]
        have hmk : u (k % p + b * s) = u (k + b * s) := hpg.mod_ k
        rw [← hmk]
        exact ⟨fun z => z.2, fun z => ⟨Nat.mod_lt _ hp0, z⟩⟩
      -- the right side of ==
      have right : ∀ (H3 : Hp) (Q' : VK), Ex H2 H3 → Q' (.bl (u (k + b * s))) H3 → tDIn (tOp (rI (fun _ j => 0 < j) fun i j => .int (i % j)) (tOp (rI0 fun i j => .int (i - j)) (tVar 1) (tC (.int 1))) (tVar 2)) (tVar 4)
          [some (.ref e), some (.int ((k + 1 : Nat) : Int)), some (.int (p : Int)), some (.ref r), some (.ref d), some (.ref l)] H3 Q' := fun H3 Q' e3 z => by
        refine ⟨_, rfl, _, _, rfl, rfl, _, rfl, _, _, rfl, rfl, (by show (0 : Int) < p; omega), _, rfl, d, _, rfl, .inl ⟨kvT ns, .inl ((k % p : Nat) : Int), .inl (e3 _ _ (e2 _ _ k1)), ?_, rfl⟩, ?_⟩
        · show V.int ((((k + 1 : Nat) : Int) - 1) % (p : Int)) = V.int ((k % p : Nat) : Int)
          rw [ek]
          rfl
        · rw [valV_kvT, hkd]
          exact z
      -- the test's end
      have test : ∀ (A B : Hp → Prop) (x : Bool), (x = u (k + b * s) → A H2) → (¬ x = u (k + b * s) → B H2) → rEq (.bl x) (.bl (u (k + b * s))) H2 fun v H' => ∃ c, v = .bl c ∧ (if c = true then A H' else B H') := fun A B x h1 h2 =>
        ⟨rfl, _, rfl, itB (fun z => h1 (V.bl.inj (of_decide_eq_true z))) fun z => h2 fun z' => of_decide_eq_false z (by rw [z'])⟩
      rcases last_case u k with ⟨hu, hL⟩ | ⟨hu, hL, hL2⟩
      · -- k is in
        have hl2 : H2 l = some (.lst (iv ((List.range k).filter u) ++ [.int (k : Int)])) := by
          rw [hl, hL, iv_app]
          rfl
        have hlen : (0 : Int) < (((iv ((List.range k).filter u) ++ [V.int (k : Int)]).length : Nat) : Int) := by
          rw [List.length_append]
          show (0 : Int) < ((_ + 1 : Nat) : Int)
          omega
        refine ⟨_, rfl, l, _, rfl, .inl (sq_of hl2), _, _, rfl, rfl, _, rfl, itT (decide_eq_true hlen) ⟨_, rfl, _, rfl, l, _, _, _, rfl, rfl, sq_of hl2, atI_last _ _, _, rfl, _, _, rfl, rfl, rfl, ?_⟩⟩
        refine right H2 _ (Ex.refl _) ?_
        have ex : decide (V.int (k : Int) = V.int (((k + 1 : Nat) : Int) - 1)) = true := decide_eq_true (by rw [ek])
        refine test _ _ _ (fun hx => ?_) (fun hx => ?_)
        · have hx2 : u k = u (k + b * s) := by rw [hu, ← hx, ex]
          refine ⟨fun σ' H' => (fun m σ H2 => σ = [some (.ref e), some (.int ((m : Nat) : Int)), some (.int (p : Int)), some (.ref r), some (.ref d), some (.ref l)] ∧ Ex H1 H2 ∧ H2 l = some (.lst (iv ((List.range m).filter u))) ∧ m ≤ s ∧ ∀ x, m ≤ x → u x = u (x + b * s)) k σ' H', fun σ' H' z => ⟨k, Nat.lt_succ_self k, z⟩, ?_⟩
          refine ⟨_, rfl, _, _, rfl, rfl, ?_⟩
          refine ⟨_, rfl, l, _, rfl, .inl (sq_of hl2), _, _, rfl, rfl, _, rfl, itT (decide_eq_true hlen) ⟨_, rfl, _, rfl, l, _, _, _, rfl, rfl, sq_of hl2, atI_last _ _, _, rfl, rfl, _, rfl, itT ex ?_⟩⟩
          refine ⟨_, rfl, .inl ⟨rfl, _, sq_of hl2⟩, l, _, .int (k : Int), rfl, rfl, hl2, by simp, ?_⟩
          refine ⟨?_, e2.mut nl, ?_, by omega, fun x hx3 => ?_⟩
          · show [_, some (V.int (((k + 1 : Nat) : Int) - 1)), _, _, _, _] = _
            rw [ek]
          · rw [upd_same, List.dropLast_concat]
          · rcases Nat.eq_or_lt_of_le hx3 with z | z
            · rw [← z]
              exact hx2
            · exact htl x z
        · refine fin (.inr fun z => hx ?_) _ rfl
          rw [ex, ← hu]
          exact z
      · have hl2 : H2 l = some (.lst (iv ((List.range k).filter u))) := by
          rw [hl, hL]
        have more : ∀ (D : Ends), u k = u (k + b * s) → True := fun _ _ => trivial
        rcases hL2 with hL2 | ⟨L1, z, hL2, hzk⟩
        · -- the list is empty
          have hl3 : H2 l = some (.lst []) := by
            rw [hl2, hL2]
            rfl
          refine ⟨_, rfl, l, _, rfl, .inl (sq_of hl3), _, _, rfl, rfl, _, rfl, itF (by decide) ?_⟩
          refine right H2 _ (Ex.refl _) ?_
          refine test _ _ _ (fun hx => ?_) (fun hx => ?_)
          · refine ⟨fun σ' H' => (fun m σ H2 => σ = [some (.ref e), some (.int ((m : Nat) : Int)), some (.int (p : Int)), some (.ref r), some (.ref d), some (.ref l)] ∧ Ex H1 H2 ∧ H2 l = some (.lst (iv ((List.range m).filter u))) ∧ m ≤ s ∧ ∀ x, m ≤ x → u x = u (x + b * s)) k σ' H', fun σ' H' z => ⟨k, Nat.lt_succ_self k, z⟩, ?_⟩
            refine ⟨_, rfl, _, _, rfl, rfl, ?_⟩
            refine ⟨_, rfl, l, _, rfl, .inl (sq_of hl3), _, _, rfl, rfl, _, rfl, itF (by decide) (itF rfl ?_)⟩
            refine ⟨?_, e2, hl2, by omega, fun x hx3 => ?_⟩
            · show [_, some (V.int (((k + 1 : Nat) : Int) - 1)), _, _, _, _] = _
              rw [ek]
            · rcases Nat.eq_or_lt_of_le hx3 with z | z
              · rw [← z, hu]
                exact hx
              · exact htl x z
          · refine fin (.inr fun z => hx ?_) _ rfl
            rw [← hu]
            exact z
        · -- its last is less
          have hl3 : H2 l = some (.lst (iv L1 ++ [.int (z : Int)])) := by
            rw [hl2, hL2, iv_app]
            rfl
          have hlen : (0 : Int) < (((iv L1 ++ [V.int (z : Int)]).length : Nat) : Int) := by
            rw [List.length_append]
            show (0 : Int) < ((_ + 1 : Nat) : Int)
            omega
          have ex : decide (V.int (z : Int) = V.int (((k + 1 : Nat) : Int) - 1)) = false := decide_eq_false (fun q => by
            have := V.int.inj q
            omega)
          refine ⟨_, rfl, l, _, rfl, .inl (sq_of hl3), _, _, rfl, rfl, _, rfl, itT (decide_eq_true hlen) ⟨_, rfl, _, rfl, l, _, _, _, rfl, rfl, sq_of hl3, atI_last _ _, _, rfl, _, _, rfl, rfl, rfl, ?_⟩⟩
          refine right H2 _ (Ex.refl _) ?_
          refine test _ _ _ (fun hx => ?_) (fun hx => ?_)
          · refine ⟨fun σ' H' => (fun m σ H2 => σ = [some (.ref e), some (.int ((m : Nat) : Int)), some (.int (p : Int)), some (.ref r), some (.ref d), some (.ref l)] ∧ Ex H1 H2 ∧ H2 l = some (.lst (iv ((List.range m).filter u))) ∧ m ≤ s ∧ ∀ x, m ≤ x → u x = u (x + b * s)) k σ' H', fun σ' H' z => ⟨k, Nat.lt_succ_self k, z⟩, ?_⟩
            refine ⟨_, rfl, _, _, rfl, rfl, ?_⟩
            refine ⟨_, rfl, l, _, rfl, .inl (sq_of hl3), _, _, rfl, rfl, _, rfl, itT (decide_eq_true hlen) ⟨_, rfl, _, rfl, l, _, _, _, rfl, rfl, sq_of hl3, atI_last _ _, _, rfl, rfl, _, rfl, itF ex ?_⟩⟩
            refine ⟨?_, e2, hl2, by omega, fun x hx3 => ?_⟩
            · show [_, some (V.int (((k + 1 : Nat) : Int) - 1)), _, _, _, _] = _
              rw [ek]
            · rcases Nat.eq_or_lt_of_le hx3 with z' | z'
              · rw [← z', hu, ← hx, ex]
              · exact htl x z'
          · refine fin (.inr fun z' => hx ?_) _ rfl
            rw [ex, ← hu]
            exact z'
    · have hc : ¬ (0 : Int) < (m : Int) := of_decide_eq_false hc
      exact fin (.inl (by omega)) _ rfl
end
end K67
set_option Elab.async false
set_option linter.all false
set_option maxRecDepth 100000
set_option maxHeartbeats 8000000
namespace K67
open PySem L2 Evl
/-! ### forms as data -/
def intsD (l : List Nat) : List PyData := l.map fun (n : Nat) => .int (n : Int)
def formD (F : Frm) : PyData := .tuple [.tuple (intsD F.early), .int (F.start : Int), .int (F.base : Int), .tuple (intsD F.rests)]
theorem intsD_lay : ∀ l : List Nat, PyData.canLayAll0 (intsD l) = true ∧ PyData.depthAll (intsD l) = 0
  | [] => ⟨rfl, rfl⟩
  | n :: r => by
    obtain ⟨h1, h2⟩ := intsD_lay r
    refine ⟨h1, ?_⟩
    show max 0 (PyData.depthAll (intsD r)) = 0
    rw [h2]
    rfl
theorem intsD_eq : ∀ l m : List Nat, PyData.eqvAll (intsD l) (intsD m) = true ↔ l = m
  | [], [] => ⟨fun _ => rfl, fun _ => rfl⟩
  | [], _ :: _ => ⟨fun h => (by cases h), fun h => (by cases h)⟩
  | _ :: _, [] => ⟨fun h => (by cases h), fun h => (by cases h)⟩
  | a :: l, b :: m => by
    have ih := intsD_eq l m
    show (((a : Int) == (b : Int)) && PyData.eqvAll (intsD l) (intsD m)) = true ↔ _
    rw [Bool.and_eq_true, ih, beq_iff_eq, List.cons.injEq]
    constructor
    · rintro ⟨h1, h2⟩
      exact ⟨by omega, h2⟩
    · rintro ⟨h1, h2⟩
      exact ⟨by omega, h2⟩
theorem formD_eq (F G : Frm) : PyData.eqv (formD F) (formD G) = true ↔ F = G := by
  obtain ⟨e1, s1, b1, r1⟩ := F
  obtain ⟨e2, s2, b2, r2⟩ := G
  show (PyData.eqvAll (intsD e1) (intsD e2) && (((s1 : Int) == (s2 : Int)) && (((b1 : Int) == (b2 : Int)) && (PyData.eqvAll (intsD r1) (intsD r2) && true)))) = true ↔ _
  simp only [Bool.and_eq_true, intsD_eq, beq_iff_eq, Frm.mk.injEq, Bool.true_and, and_true]
  constructor
  · rintro ⟨h1, h2, h3, h4⟩
    exact ⟨h1, by omega, by omega, h4⟩
  · rintro ⟨h1, h2, h3, h4⟩
    exact ⟨h1, by omega, by omega, h4⟩
theorem formD_lay (F : Frm) : PyData.canLay0 (formD F) = true ∧ PyData.depth (formD F) ≤ 2 := by
  obtain ⟨h1, h2⟩ := intsD_lay F.early
  obtain ⟨h3, h4⟩ := intsD_lay F.rests
  constructor
  · show (PyData.canLayAll0 (intsD F.early) && (true && (true && (PyData.canLayAll0 (intsD F.rests) && true)))) = true
    rw [h1, h3]
    rfl
  · show max (PyData.depthAll (intsD F.early) + 1) (max 0 (max 0 (max (PyData.depthAll (intsD F.rests) + 1) 0))) + 1 ≤ 2
    rw [h2, h4]
    decide
theorem formD_ok (F : Frm) : SeqAt.shaped (formD F) = true := by
  obtain ⟨h1, h2⟩ := formD_lay F
  unfold SeqAt.shaped
  rw [h1, decide_eq_true (by omega)]
  rfl
theorem dp_ints {K : PySem.W.Frag} {H : Hp} : ∀ l : List Nat, DpAll K H (iv l) (intsD l)
  | [] => .nil
  | n :: r => .cons (.int _) (dp_ints r)
theorem FormAt.dp {K : PySem.W.Frag} {H : Hp} {t : Addr} {F : Frm} (h : FormAt H t F) : Dp K H (.ref t) (formD F) := by
  obtain ⟨te, tr, h1, h2, h3⟩ := h
  exact .tup (st_of h1) (.cons (.tup (st_of h2) (dp_ints _)) (.cons (.int _) (.cons (.int _) (.cons (.tup (st_of h3) (dp_ints _)) .nil))))
/-! ### circles -/
def cf (t : Addr) : List (Str × V) := putF "form" (.ref t) []
theorem cf_form (t : Addr) : (cf t).lookup ("form" : Str) = some (.ref t) := by
  unfold cf
  rw [lookup_putF, if_pos rfl]
/-- a Circle stands at a: the numbers u -/
def Circ (C : Addr) (H : Hp) (a : Addr) (u : Nat → Bool) : Prop := ∃ dx t F, H a = some (.ins C dx (cf t)) ∧ FormAt H t F ∧ IsForm u F
theorem Circ.keep {C : Addr} {H H' : Hp} {a : Addr} {u : Nat → Bool} (h : Circ C H a u) (e : ∀ b o, H b = some o → (∀ ps, o ≠ .tbl ps) → H' b = some o) : Circ C H' a u := by
  obtain ⟨dx, t, F, h1, ⟨te, tr, h2, h3, h4⟩, h5⟩ := h
  exact ⟨dx, t, F, e _ _ h1 (fun _ z => by cases z), ⟨te, tr, e _ _ h2 (fun _ z => by cases z), e _ _ h3 (fun _ z => by cases z), e _ _ h4 (fun _ z => by cases z)⟩, h5⟩
theorem Circ.ex {C : Addr} {H H' : Hp} {a : Addr} {u : Nat → Bool} (h : Circ C H a u) (e : Ex H H') : Circ C H' a u := h.keep fun b o z _ => e b o z
/-- what is known of the class -/
structure Ct (K : PySem.W.Frag) (mg : Str → Option Value) (C : Addr) : Prop where
  cl : Cls K C
  nF : NoAttr K C "form"
  mgC : mg "Circle" = some (.ref C)
  mc : ∃ t, mg "MOST_CIRCLE" = some (.int 20000 t)
  cc : PySem.W.findIn K (.ref C) "__class__" = some (some (.builtin "object.__class__"))
  cg : PySem.W.specialIn K (.builtin "object.__class__") "__get__" = some (some (.builtin "getset_descriptor.__get__"))
  ct : PySem.W.takesIn K (.builtin "object.__class__") = some true
  co : PySem.W.mroIn K C (.type "object") = some true
section
variable {P : Program} {w : World} {K : PySem.W.Frag} {mg : Str → Option Value} {base : Heap} {C : Addr}
abbrev sInit : Stmt := inClass (topS 20) 0
theorem scInit : FnScope ["self", "early", "start", "base", "rests", "fault"] ["self", "early", "start", "base", "rests"] (defScope sInit) := ⟨rfl, rfl, rfl, by decide +kernel, rfl, by decide +kernel, by decide +kernel⟩
def spInit (C : Addr) : Sp := fun vs H Q _ => ∃ (x dx e r : Addr) (s b : Nat) (es rs : List Nat) (u : Nat → Bool), vs = [.ref x, .ref e, .int (s : Int), .int (b : Int), .ref r] ∧ H x = some (.ins C dx []) ∧ H e = some (.tup (iv es)) ∧ H r = some (.tup (iv rs)) ∧ Pre u es s b rs ∧ b < 31 ∧ s ≤ 1000 ∧
  ∀ H', (∀ c o, H c = some o → c ≠ x → H' c = some o) → Circ C H' x u → Q .non H'
theorem pre_early {u : Nat → Bool} {es rs : List Nat} {s b : Nat} (h : Pre u es s b rs) : es.Pairwise (· < ·) ∧ rs.Pairwise (· < ·) ∧ (∀ n ∈ es, n < s) ∧ ∀ n ∈ rs, n < b := by
  refine ⟨by rw [h.earl]; exact range_strict _ _, by rw [h.rst]; exact range_strict _ _, fun n hn => ?_, fun n hn => ?_⟩
  · rw [h.earl] at hn
    simpa using (List.mem_filter.mp hn).1
  · rw [h.rst] at hn
    simpa using (List.mem_filter.mp hn).1
theorem ok_init {f : Addr} {fd : FuncData} (F : Fun K "__init__" "Circle.__init__" sInit f fd) (B : Bt mg) (T : Ct K mg C) (GR : Fn P w K mg base 2 "rising_fault" ["value", "most"] spRising) (GB : Fn P w K mg base 3 "check_between" ["value", "least", "most"] spCheckBetween)
    (GL : Fn P w K mg base 3 "least_form" ["early", "start", "base", "rests"] (spLF K)) : FnOk P w K mg base CX0 4 f fd ["self", "early", "start", "base", "rests"] (spInit C) := by
  refine F.ok scInit (fun vs H Q E h => ?_) (fun cdv A outer sh H vs Q E hr h => ?_)
  · obtain ⟨x, dx, e, r, s, b, es, rs, u, rfl, _⟩ := h
    rfl
  · obtain ⟨x, dx, e, r, s, b, es, rs, u, rfl, hx, he, hre, hp, hb, hs, q⟩ := h
    obtain ⟨tm, hmc⟩ := T.mc
    have hr2 : Room 2 (cxOf CX0 P w K mg base ["self", "early", "start", "base", "rests", "fault"] "Circle.__init__" (defScope sInit) f cdv A outer sh H E).nox.A := hr.mono (by decide)
    refine ⟨_, pss_cons (ps_set (i := 5) scInit.nd rfl (.inl rfl) (pe_fn GR hr2 (by rfl) (pa_cons (pv 1) (pa_cons pe_non pa_nil))))
      (pss_cons (ps_if (pt_cmpR op_ne (pv 5) (pe_un un_neg pe_int) (nomark _)) (pss_one ps_never) pss_nil)
      (pss_cons (ps_expr (pe_fn GB hr (by rfl) (pa_cons (pv 2) (pa_cons (pe_ifExp (pt_cmpR op_gt (pe_callB call_len_seq (by rfl) B.len PySem.boot_len (pa_cons (pv 1) pa_nil)) pe_int (nomark _)) (pe_op op_add (pe_ix ix_tup (pv 1) (pe_un un_neg pe_int) (fun _ _ => rfl)) pe_int) pe_int) (pa_cons (pe_glob (v := .int 20000) (by rfl) hmc ⟨_, rfl⟩) pa_nil)))))
      (pss_cons (ps_expr (pe_fn GB hr (by rfl) (pa_cons (pv 3) (pa_cons pe_int (pa_cons (pe_glob (v := .int 20000) (by rfl) hmc ⟨_, rfl⟩) pa_nil)))))
      (pss_cons (ps_set (i := 5) scInit.nd rfl (.inl rfl) (pe_fn GR hr2 (by rfl) (pa_cons (pv 4) (pa_cons (pe_op op_sub (pv 3) pe_int) pa_nil))))
      (pss_cons (ps_if (pt_cmpR op_ne (pv 5) (pe_un un_neg pe_int) (nomark _)) (pss_one ps_never) pss_nil)
      (pss_one (ps_fld (pv 0) (pe_fn GL hr (by rfl) (pa_cons (pv 1) (pa_cons (pv 2) (pa_cons (pv 3) (pa_cons (pv 4) pa_nil))))) rfl))))))), ?_⟩
    obtain ⟨p1, p2, p3, p4⟩ := pre_early hp
    have neq : (!decide (V.int (-1) = V.int (-1))) = false := by decide
    -- fault = rising_fault(early, None)
    refine ⟨_, rfl, e, es, .non, rfl, he, p1, .inl rfl, fun H1 e1 => ?_⟩
    refine ⟨_, rfl, _, rfl, rfl, _, rfl, itF neq ?_⟩
    -- check_between(start, ..)
    have cont : ∀ H1, Ex H H1 → tSeq (tDrop (tCall spCheckBetween [] E0 (tCons (tVar 3) (tCons (tC (.int 1)) (tCons (tC (.int 20000)) tNil)))))
        (tSeq (tAsg (tCall spRising [] E0 (tCons (tVar 4) (tCons (tOp (rI0 fun i j => .int (i - j)) (tVar 3) (tC (.int 1))) tNil))) (gName 5))
        (tSeq (tIfS (tTest (tOp rNe (tVar 5) (tUn (rU fun i => .int (-i)) (tC (.int 1))))) tNever tNext)
        (sFld K (tVar 0) (tCall (spLF K) [] E0 (tCons (tVar 1) (tCons (tVar 2) (tCons (tVar 3) (tCons (tVar 4) tNil))))) "form")))
        { nx := fun _ H' => Q .non H', rt := Q } [some (.ref x), some (.ref e), some (.int (s : Int)), some (.int (b : Int)), some (.ref r), some (.int (-1))] H1 := fun H1 e1 => by
      refine ⟨_, rfl, (b : Int), 1, 20000, rfl, by have := hp.pos; omega, by omega, ?_⟩
      refine ⟨_, rfl, _, rfl, _, _, rfl, rfl, r, rs, .int ((b : Int) - 1), rfl, e1 _ _ hre, p2, .inr ⟨_, rfl, fun n hn => by have := p4 n hn; omega⟩, fun H2 e2 => ?_⟩
      refine ⟨_, rfl, _, rfl, rfl, _, rfl, itF neq ?_⟩
      have e12 := e1.trans e2
      refine ⟨_, rfl, _, rfl, _, rfl, _, rfl, e, r, s, b, es, rs, u, rfl, .inr (st_of (e12 _ _ he)), .inr (st_of (e12 _ _ hre)), hp, hb, hs, fun t Fm H3 e3 hf hF => ?_⟩
      have e13 := e12.trans e3
      refine ⟨_, rfl, x, C, dx, [], rfl, e13 _ _ hx, T.cl, T.nF, (by show 0 < 1000; decide), ?_⟩
      have kp : ∀ c o, H3 c = some o → c ≠ x → upd H3 x (.ins C dx (cf t)) c = some o := fun c o h1 h2 => by
        rw [upd_ne h2]
        exact h1
      have nx : ∀ c o, H3 c = some (.tup o) → c ≠ x := fun c o h1 => ne_of h1 (e13 _ _ hx) (by intro z; cases z)
      refine q _ (fun c o h1 h2 => kp c o (e13 _ _ h1) h2) ⟨dx, t, Fm, upd_same, ?_, hF⟩
      obtain ⟨te, tr, f1, f2, f3⟩ := hf
      exact ⟨te, tr, kp _ _ f1 (nx _ _ f1), kp _ _ f2 (nx _ _ f2), kp _ _ f3 (nx _ _ f3)⟩
    rcases List.eq_nil_or_concat es with hes | ⟨L, z, hes⟩
    · subst hes
      refine ⟨_, rfl, _, rfl, e, _, rfl, .inr (st_of (e1 _ _ he)), _, _, rfl, rfl, _, rfl, itF (by decide) ?_⟩
      exact ⟨(s : Int), 0, 20000, rfl, by omega, by omega, cont H1 e1⟩
    · have hes : es = L ++ [z] := by simpa using hes
      have hz : z < s := p3 z (by rw [hes]; simp)
      have he2 : H1 e = some (.tup (iv L ++ [.int (z : Int)])) := by
        rw [e1 _ _ he, hes, iv_app]
        rfl
      have hlen : (0 : Int) < (((iv L ++ [V.int (z : Int)]).length : Nat) : Int) := by
        rw [List.length_append]
        show (0 : Int) < ((_ + 1 : Nat) : Int)
        omega
      refine ⟨_, rfl, _, rfl, e, _, rfl, .inr (st_of he2), _, _, rfl, rfl, _, rfl, itT (decide_eq_true hlen) ?_⟩
      refine ⟨_, rfl, _, rfl, e, _, _, _, rfl, rfl, st_of he2, atI_last _ _, _, _, rfl, rfl, ?_⟩
      exact ⟨(s : Int), (z : Int) + 1, 20000, rfl, by omega, by omega, cont H1 e1⟩
/-! ### the getters -/
def spGet (C : Addr) (i : Nat) : Sp := fun vs H Q _ => ∃ (a dx t : Addr) (xs : List V) (v : V), vs = [.ref a] ∧ H a = some (.ins C dx (cf t)) ∧ H t = some (.tup xs) ∧ xs[i]? = some v ∧ Q v H
theorem get_reads {i : Nat} {a dx t : Addr} {xs : List V} {v : V} {H : Hp} {Q : VK} (T : Ct K mg C) (ha : H a = some (.ins C dx (cf t))) (ht : H t = some (.tup xs)) (hv : xs[i]? = some v) (q : Q v H) :
    tOp (rIxT K) (tFld K (tVar 0) "form") (tC (.int (i : Int))) [some (.ref a)] H Q :=
  ⟨_, rfl, a, C, dx, _, _, rfl, ha, T.cl, T.nF, cf_form t, t, xs, (i : Int), v, rfl, rfl, st_of ht, atI_nat hv, q⟩
theorem ok_g0 {f : Addr} {fd : FuncData} (F : Fun K "early" "Circle.early" (inClass (topS 20) 1) f fd) (T : Ct K mg C) : FnOk P w K mg base CX0 1 f fd ["self"] (spGet C 0) := by
  refine F.ok (N := ["self"]) ⟨rfl, rfl, rfl, by decide +kernel, rfl, by decide +kernel, by decide +kernel⟩ (fun vs H Q E h => ?_) (fun cdv A outer sh H vs Q E hr h => ?_)
  · obtain ⟨a, dx, t, xs, v, rfl, _⟩ := h
    rfl
  · obtain ⟨a, dx, t, xs, v, rfl, ha, ht, hv, q⟩ := h
    exact ⟨_, pss_one (ps_ret (pe_ix ix_tup (pe_fld (pv 0) rfl) pe_int (fun _ _ => rfl))), get_reads (i := 0) T ha ht hv q⟩
theorem ok_g1 {f : Addr} {fd : FuncData} (F : Fun K "start" "Circle.start" (inClass (topS 20) 2) f fd) (T : Ct K mg C) : FnOk P w K mg base CX0 1 f fd ["self"] (spGet C 1) := by
  refine F.ok (N := ["self"]) ⟨rfl, rfl, rfl, by decide +kernel, rfl, by decide +kernel, by decide +kernel⟩ (fun vs H Q E h => ?_) (fun cdv A outer sh H vs Q E hr h => ?_)
  · obtain ⟨a, dx, t, xs, v, rfl, _⟩ := h
    rfl
  · obtain ⟨a, dx, t, xs, v, rfl, ha, ht, hv, q⟩ := h
    exact ⟨_, pss_one (ps_ret (pe_ix ix_tup (pe_fld (pv 0) rfl) pe_int (fun _ _ => rfl))), get_reads (i := 1) T ha ht hv q⟩
theorem ok_g2 {f : Addr} {fd : FuncData} (F : Fun K "base" "Circle.base" (inClass (topS 20) 3) f fd) (T : Ct K mg C) : FnOk P w K mg base CX0 1 f fd ["self"] (spGet C 2) := by
  refine F.ok (N := ["self"]) ⟨rfl, rfl, rfl, by decide +kernel, rfl, by decide +kernel, by decide +kernel⟩ (fun vs H Q E h => ?_) (fun cdv A outer sh H vs Q E hr h => ?_)
  · obtain ⟨a, dx, t, xs, v, rfl, _⟩ := h
    rfl
  · obtain ⟨a, dx, t, xs, v, rfl, ha, ht, hv, q⟩ := h
    exact ⟨_, pss_one (ps_ret (pe_ix ix_tup (pe_fld (pv 0) rfl) pe_int (fun _ _ => rfl))), get_reads (i := 2) T ha ht hv q⟩
theorem ok_g3 {f : Addr} {fd : FuncData} (F : Fun K "rests" "Circle.rests" (inClass (topS 20) 4) f fd) (T : Ct K mg C) : FnOk P w K mg base CX0 1 f fd ["self"] (spGet C 3) := by
  refine F.ok (N := ["self"]) ⟨rfl, rfl, rfl, by decide +kernel, rfl, by decide +kernel, by decide +kernel⟩ (fun vs H Q E h => ?_) (fun cdv A outer sh H vs Q E hr h => ?_)
  · obtain ⟨a, dx, t, xs, v, rfl, _⟩ := h
    rfl
  · obtain ⟨a, dx, t, xs, v, rfl, ha, ht, hv, q⟩ := h
    exact ⟨_, pss_one (ps_ret (pe_ix ix_tup (pe_fld (pv 0) rfl) pe_int (fun _ _ => rfl))), get_reads (i := 3) T ha ht hv q⟩
/-- a property of a Circle, by its place in the form -/
structure Gt (P : Program) (w : World) (K : PySem.W.Frag) (mg : Str → Option Value) (base : Heap) (C : Addr) (x : Str) (i : Nat) : Prop where
  ex : ∃ p g fd, PropOf K C x p g ∧ FnOk P w K mg base CX0 1 g fd ["self"] (spGet C i) ∧ L2.Binds K fd ["self"] []
theorem pe_gt {X : Cx} {x : Str} {i : Nat} {e : Expr} {pos : Pos} {ta : TE} (G : Gt X.prog X.w X.K X.mg X.base C x i) (T : Ct X.K X.mg C) (hr : Room 2 X.A) (he : PE X e ta) (hab : attributeBase e x X.env (eval e X.env) = eval e X.env := by rfl) :
    PE X (.Attribute e x pos) (tProp C (spGet C i) [] E0 ta) := by
  obtain ⟨p, g, fd, hp, F, hb⟩ := G.ex
  exact pe_prop he T.cl hp F hr hb .nil (fun _ _ _ _ _ _ _ h => h.elim) hab
structure Gts (P : Program) (w : World) (K : PySem.W.Frag) (mg : Str → Option Value) (base : Heap) (C : Addr) : Prop where
  early : Gt P w K mg base C "early" 0
  start : Gt P w K mg base C "start" 1
  base_ : Gt P w K mg base C "base" 2
  rests : Gt P w K mg base C "rests" 3
/-- reading a property: v is what stands at that place -/
theorem get_at {a dx t : Addr} {i : Nat} {xs : List V} {v : V} {H : Hp} {σ : L2.St} {j : Nat} {Q : VK} (hs : σ[j]? = some (some (.ref a))) (ha : H a = some (.ins C dx (cf t))) (ht : H t = some (.tup xs)) (hv : xs[i]? = some v) (q : Q v H) :
    tProp C (spGet C i) [] E0 (tVar j) σ H Q := ⟨_, hs, a, dx, cf t, rfl, ha, a, dx, t, xs, v, rfl, ha, ht, hv, q⟩
end
end K67
set_option Elab.async false
set_option linter.all false
set_option maxRecDepth 100000
set_option maxHeartbeats 8000000
namespace K67
open PySem L2 Evl
/-! ### set(()) -/
theorem cr_set_empty {X : Cx} (hc : X.calm = true) : CallR X (.type "set") (fun xs H Q => ∃ l, xs = [.ref l] ∧ H l = some (.tup []) ∧ ∀ a, H a = none → Q (.ref a) (upd H a (SetO X.w a (fun _ => false) 0))) := by
  intro pins s σ H xs us Q I r h
  obtain ⟨l, rfl, hl, q⟩ := h
  obtain ⟨u, rfl, ru⟩ := vals1 r
  obtain rfl : u = Value.ref l := ru
  obtain ⟨its, rv, p, _⟩ := I.tuple (st_of hl)
  cases rv
  refine call_set_tupI [] (I.ok.hd hc) (show s.heap.IsTuple l #[] from p) .nil (by decide) fun h' tk c hS hcz hk => ?_
  have nf : H s.heap.objs.size = none := I.hok.fresh (Nat.le_refl _)
  have e0 : (fun j : Int => decide (j ∈ ([] : List Int))) = fun _ => false := by
    funext j
    simp
  have ec : c = 0 := by
    have : c ≤ 0 := hcz
    omega
  rw [e0, ec] at hS
  exact ⟨.ref s.heap.objs.size, _, I.laid (t' := tk) hk (Nat.le_refl _) (setO_new hS), rfl, q _ nf⟩
section
variable {P : Program} {w : World} {K : PySem.W.Frag} {mg : Str → Option Value} {base : Heap} {C : Addr}
/-! ### == of circles -/
abbrev sEq : Stmt := inClass (topS 20) 6
def spEq2 (C : Addr) : Sp := fun vs H Q _ => ∃ (a b : Addr) (u v : Nat → Bool), vs = [.ref a, .ref b] ∧ Circ C H a u ∧ Circ C H b v ∧ ∀ r : Bool, (r = true ↔ u = v) → Q (.bl r) H
theorem kit_self : PySem.W.kitOne K (.ref C) (.ref C) = some true := by
  unfold PySem.W.kitOne
  rw [if_pos (by simp)]
theorem isi_circ {H : Hp} {a dx : Addr} {fs : List (Str × V)} {Q : VK} (T : Ct K mg C) (h : H a = some (.ins C dx fs)) (q : Q (.bl true) H) : rIsi K [.ref a, .ref C] H Q :=
  ⟨.ref a, .ref C, .ref C, .ref C, true, rfl, .own C, .base (.ins h T.cl T.cc T.cg T.ct T.co), kit_self, q⟩
theorem ok_eq {f : Addr} {fd : FuncData} (F : Fun K "__eq__" "Circle.__eq__" sEq f fd) (B : Bt mg) (T : Ct K mg C) : FnOk P w K mg base CX0 1 f fd ["self", "other"] (spEq2 C) := by
  refine F.ok (N := ["self", "other"]) ⟨rfl, rfl, rfl, by decide +kernel, rfl, by decide +kernel, by decide +kernel⟩ (fun vs H Q E h => ?_) (fun cdv A outer sh H vs Q E hr h => ?_)
  · obtain ⟨a, b, u, v, rfl, _⟩ := h
    rfl
  · obtain ⟨a, b, u, v, rfl, ⟨dx, t, Fa, h1, h2, h3⟩, ⟨dy, t', Fb, k1, k2, k3⟩, q⟩ := h
    refine ⟨_, pss_one (ps_ret (pe_and (pe_callB call_isi (by rfl) B.isinstance (by decide +kernel) (pa_cons (pv 1) (pa_cons (pe_glob (v := .ref C) (by rfl) T.mgC rfl) pa_nil))) (pe_one (pe_cmpR (op_eqD hr.units) (pe_fld (pv 0) rfl) (pe_fld (pv 1) rfl) (nomark _))))), ?_⟩
    refine ⟨_, rfl, _, _, .ref C, _, true, rfl, .own C, .base (.ins k1 T.cl T.cc T.cg T.ct T.co), kit_self, _, rfl, itT rfl ?_⟩
    refine ⟨_, rfl, a, C, dx, _, _, rfl, h1, T.cl, T.nF, cf_form t, _, rfl, b, C, dy, _, _, rfl, k1, T.cl, T.nF, cf_form t', _, _, h2.dp, k2.dp, formD_ok _, formD_ok _, q _ ?_⟩
    rw [formD_eq]
    constructor
    · intro e
      subst e
      exact (h3.pre).eq (k3.pre)
    · intro e
      subst e
      exact h3.uniq k3
/-! ### check_circle, check_circles, common_base -/
def spChk (C : Addr) : Sp := fun vs H Q _ => ∃ (a dx : Addr) (fs : List (Str × V)), vs = [.ref a] ∧ H a = some (.ins C dx fs) ∧ Q .non H
theorem ok_chk {f : Addr} {fd : FuncData} (F : Fun K "check_circle" "check_circle" (topS 22) f fd) (B : Bt mg) (T : Ct K mg C) : FnOk P w K mg base CX0 1 f fd ["value"] (spChk C) := by
  refine F.ok (N := ["value"]) ⟨rfl, rfl, rfl, by decide +kernel, rfl, by decide +kernel, by decide +kernel⟩ (fun vs H Q E h => ?_) (fun cdv A outer sh H vs Q E hr h => ?_)
  · obtain ⟨a, dx, fs, rfl, _⟩ := h
    rfl
  · obtain ⟨a, dx, fs, rfl, ha, q⟩ := h
    refine ⟨_, pss_one (ps_if (pt_not (pt_val (pe_callB call_isi (by rfl) B.isinstance (by decide +kernel) (pa_cons (pv 0) (pa_cons (pe_glob (v := .ref C) (by rfl) T.mgC rfl) pa_nil))))) (pss_one ps_never) pss_nil), ?_⟩
    exact ⟨_, rfl, _, _, .ref C, _, true, rfl, .own C, .base (.ins ha T.cl T.cc T.cg T.ct T.co), kit_self, _, rfl, itF rfl q⟩
def spChk2 (C : Addr) : Sp := fun vs H Q _ => ∃ (a dx : Addr) (fs : List (Str × V)) (b dy : Addr) (gs : List (Str × V)), vs = [.ref a, .ref b] ∧ H a = some (.ins C dx fs) ∧ H b = some (.ins C dy gs) ∧ Q .non H
theorem ok_chk2 {f : Addr} {fd : FuncData} (F : Fun K "check_circles" "check_circles" (topS 23) f fd) (G : Fn P w K mg base 1 "check_circle" ["value"] (spChk C)) : FnOk P w K mg base CX0 2 f fd ["one", "other"] (spChk2 C) := by
  refine F.ok (N := ["one", "other"]) ⟨rfl, rfl, rfl, by decide +kernel, rfl, by decide +kernel, by decide +kernel⟩ (fun vs H Q E h => ?_) (fun cdv A outer sh H vs Q E hr h => ?_)
  · obtain ⟨a, dx, fs, b, dy, gs, rfl, _⟩ := h
    rfl
  · obtain ⟨a, dx, fs, b, dy, gs, rfl, ha, hb, q⟩ := h
    refine ⟨_, pss_cons (ps_expr (pe_fn G hr (by rfl) (pa_cons (pv 0) pa_nil))) (pss_one (ps_expr (pe_fn G hr (by rfl) (pa_cons (pv 1) pa_nil)))), ?_⟩
    exact ⟨_, rfl, a, dx, fs, rfl, ha, _, rfl, b, dy, gs, rfl, hb, q⟩
/-- an instance and its form -/
def CircF (C : Addr) (H : Hp) (a : Addr) (F : Frm) : Prop := ∃ dx t, H a = some (.ins C dx (cf t)) ∧ FormAt H t F
theorem CircF.ex {H H' : Hp} {a : Addr} {F : Frm} (h : CircF C H a F) (e : Ex H H') : CircF C H' a F := by
  obtain ⟨dx, t, h1, h2⟩ := h
  exact ⟨dx, t, e _ _ h1, h2.ex e⟩
theorem Circ.form {H : Hp} {a : Addr} {u : Nat → Bool} (h : Circ C H a u) : ∃ F, CircF C H a F ∧ IsForm u F := by
  obtain ⟨dx, t, F, h1, h2, h3⟩ := h
  exact ⟨F, ⟨dx, t, h1, h2⟩, h3⟩
theorem get_start {H : Hp} {a : Addr} {F : Frm} {σ : L2.St} {j : Nat} {Q : VK} (hs : σ[j]? = some (some (.ref a))) (h : CircF C H a F) (q : Q (.int (F.start : Int)) H) : tProp C (spGet C 1) [] E0 (tVar j) σ H Q := by
  obtain ⟨dx, t, h1, te, tr, h2, h3, h4⟩ := h
  exact get_at hs h1 h2 rfl q
theorem get_base {H : Hp} {a : Addr} {F : Frm} {σ : L2.St} {j : Nat} {Q : VK} (hs : σ[j]? = some (some (.ref a))) (h : CircF C H a F) (q : Q (.int (F.base : Int)) H) : tProp C (spGet C 2) [] E0 (tVar j) σ H Q := by
  obtain ⟨dx, t, h1, te, tr, h2, h3, h4⟩ := h
  exact get_at hs h1 h2 rfl q
theorem get_early {H : Hp} {a : Addr} {F : Frm} {σ : L2.St} {j : Nat} {Q : VK} (hs : σ[j]? = some (some (.ref a))) (h : CircF C H a F) (q : ∀ te, H te = some (.tup (iv F.early)) → Q (.ref te) H) : tProp C (spGet C 0) [] E0 (tVar j) σ H Q := by
  obtain ⟨dx, t, h1, te, tr, h2, h3, h4⟩ := h
  exact get_at hs h1 h2 rfl (q te h3)
theorem get_rests {H : Hp} {a : Addr} {F : Frm} {σ : L2.St} {j : Nat} {Q : VK} (hs : σ[j]? = some (some (.ref a))) (h : CircF C H a F) (q : ∀ tr, H tr = some (.tup (iv F.rests)) → Q (.ref tr) H) : tProp C (spGet C 3) [] E0 (tVar j) σ H Q := by
  obtain ⟨dx, t, h1, te, tr, h2, h3, h4⟩ := h
  exact get_at hs h1 h2 rfl (q tr h4)
def spCB (C : Addr) : Sp := fun vs H Q _ => ∃ (a b : Addr) (F G : Frm), vs = [.ref a, .ref b] ∧ CircF C H a F ∧ CircF C H b G ∧ 0 < F.base ∧ F.base ≤ 1000 ∧ 0 < G.base ∧ G.base ≤ 1000 ∧ Nat.lcm F.base G.base ≤ 1000 ∧
  ∀ H', Ex H H' → Q (.int ((Nat.lcm F.base G.base : Nat) : Int)) H'
theorem ok_cb {f : Addr} {fd : FuncData} (F : Fun K "common_base" "common_base" (topS 24) f fd) (T : Ct K mg C) (Gs : Gts P w K mg base C) (GC : Fn P w K mg base 2 "check_circles" ["one", "other"] (spChk2 C)) (GM : Fn P w K mg base 2 "multiple_of" ["one", "other"] spMultiple) :
    FnOk P w K mg base CX0 3 f fd ["one", "other"] (spCB C) := by
  have sc : FnScope ["one", "other", "base"] ["one", "other"] (defScope (topS 24)) := ⟨rfl, rfl, rfl, by decide +kernel, rfl, by decide +kernel, by decide +kernel⟩
  refine F.ok sc (fun vs H Q E h => ?_) (fun cdv A outer sh H vs Q E hr h => ?_)
  · obtain ⟨a, b, F, G, rfl, _⟩ := h
    rfl
  · obtain ⟨a, b, Fa, Fb, rfl, ha, hb, h1, h2, h3, h4, h5, q⟩ := h
    obtain ⟨tm, hmc⟩ := T.mc
    refine ⟨_, pss_cons (ps_expr (pe_fn GC hr (by rfl) (pa_cons (pv 0) (pa_cons (pv 1) pa_nil))))
      (pss_cons (ps_set (i := 2) sc.nd rfl (.inl rfl) (pe_fn GM hr (by rfl) (pa_cons (pe_gt Gs.base_ T hr (pv 0)) (pa_cons (pe_gt Gs.base_ T hr (pv 1)) pa_nil))))
      (pss_cons (ps_if (pt_cmpR op_gt (pv 2) (pe_glob (v := .int 20000) (by rfl) hmc ⟨_, rfl⟩) (nomark _)) (pss_one ps_never) pss_nil)
      (pss_one (ps_ret (pv 2))))), ?_⟩
    obtain ⟨dx, t, ha1, _⟩ := id ha
    obtain ⟨dy, t', hb1, _⟩ := id hb
    refine ⟨_, rfl, _, rfl, a, dx, _, b, dy, _, rfl, ha1, hb1, ?_⟩
    refine get_base rfl ha (get_base rfl hb ⟨Fa.base, Fb.base, rfl, h1, h2, h3, h4, fun H1 e1 => ?_⟩)
    refine ⟨_, rfl, _, _, rfl, rfl, _, rfl, itF (decide_eq_false (by omega)) ⟨_, rfl, q _ e1⟩⟩
/-! ### circle_with -/
structure Mkr (P : Program) (w : World) (K : PySem.W.Frag) (mg : Str → Option Value) (base : Heap) (C : Addr) : Prop where
  ex : ∃ f fd, Mk K C f ∧ FnOk P w K mg base CX0 4 f fd ["self", "early", "start", "base", "rests"] (spInit C) ∧ L2.Binds K fd ["self", "early", "start", "base", "rests"] []
theorem pe_mkr {X : Cx} {p pos : Pos} {e : Expr} {es : List Expr} {t : TA} (M : Mkr X.prog X.w X.K X.mg X.base C) (T : Ct X.K X.mg C) (hr : Room 5 X.A) (hg : Gl X "Circle") (ha : PA X (e :: es) t)
    (he : starEach (e :: es) X.env = (false, eval e X.env) :: starEach es X.env := by rfl) (hpl : (backTo pos (starEach es X.env)).any (·.1) = false := by rfl) :
    PE X (.Call (.Name "Circle" p) (e :: es) [] pos) (tMake C (spInit C) [] E0 t) := by
  obtain ⟨f, fd, mk, F, hb⟩ := M.ex
  exact pe_make mk F hr hg T.mgC hb .nil pass0 ha (by decide) he hpl
/-- a new circle: what the making is asked -/
theorem made {H : Hp} {e r : Addr} {s b : Nat} {es rs : List Nat} {u : Nat → Bool} {Q : VK} {E : XK} (he : H e = some (.tup (iv es))) (hre : H r = some (.tup (iv rs))) (hp : Pre u es s b rs) (hb : b < 31) (hs : s ≤ 1000) (q : ∀ a H', Ex H H' → Circ C H' a u → Q (.ref a) H') :
    ∀ x dx, H x = none → H dx = none → dx ≠ x → spInit C (.ref x :: ([.ref e, .int (s : Int), .int (b : Int), .ref r] ++ [])) (upd (upd H dx (.own x)) x (.ins C dx [])) (fun v H2 => v = .non ∧ Q (.ref x) H2) E := by
  intro x dx nx ndx ne
  have ex1 : Ex H (upd (upd H dx (.own x)) x (.ins C dx [])) := fun c o h => by
    rw [upd_ne (ne_of_none h nx), upd_ne (ne_of_none h ndx)]
    exact h
  refine ⟨x, dx, e, r, s, b, es, rs, u, rfl, upd_same, ex1 _ _ he, ex1 _ _ hre, hp, hb, hs, fun H' kp hc => ⟨rfl, q x H' (fun c o h => ?_) hc⟩⟩
  exact kp c o (ex1 c o h) (ne_of_none h nx)
def spCW (K : PySem.W.Frag) (C : Addr) : Sp := fun vs H Q _ => ∃ (e r : Addr) (s b : Nat) (es rs : List Nat) (u : Nat → Bool), vs = [.ref e, .int (s : Int), .int (b : Int), .ref r] ∧ Sq K H e (iv es) ∧ Sq K H r (iv rs) ∧ Pre u es s b rs ∧ b < 31 ∧ s ≤ 1000 ∧
  ∀ (a : Addr) (H' : Hp), Ex H H' → Circ C H' a u → Q (.ref a) H'
theorem ok_cw {f : Addr} {fd : FuncData} (F : Fun K "circle_with" "circle_with" (topS 25) f fd) (T : Ct K mg C) (M : Mkr P w K mg base C) (GL : Fn P w K mg base 3 "least_form" ["early", "start", "base", "rests"] (spLF K)) : FnOk P w K mg base CX0 6 f fd ["early", "start", "base", "rests"] (spCW K C) := by
  have sc : FnScope ["early", "start", "base", "rests", "form"] ["early", "start", "base", "rests"] (defScope (topS 25)) := ⟨rfl, rfl, rfl, by decide +kernel, rfl, by decide +kernel, by decide +kernel⟩
  refine F.ok sc (fun vs H Q E h => ?_) (fun cdv A outer sh H vs Q E hr h => ?_)
  · obtain ⟨e, r, s, b, es, rs, u, rfl, _⟩ := h
    rfl
  · obtain ⟨e, r, s, b, es, rs, u, rfl, hE, hR, hp, hb, hs, q⟩ := h
    obtain ⟨tm, hmc⟩ := T.mc
    refine ⟨_, pss_cons (ps_set (i := 4) sc.nd rfl (.inl rfl) (pe_fn GL (hr.mono (by decide)) (by rfl) (pa_cons (pv 0) (pa_cons (pv 1) (pa_cons (pv 2) (pa_cons (pv 3) pa_nil))))))
      (pss_cons (ps_if (PW.pt (pw_or (pt_cmpR op_gt (pe_ix ix_tup (pv 4) pe_int (fun _ _ => rfl)) (pe_glob (v := .int 20000) (by rfl) hmc ⟨_, rfl⟩) (nomark _)) (pw_or1 (pt_cmpR op_gt (pe_ix ix_tup (pv 4) pe_int (fun _ _ => rfl)) (pe_glob (v := .int 20000) (by rfl) hmc ⟨_, rfl⟩) (nomark _))))) (pss_one ps_never) pss_nil)
      (pss_one (ps_ret (pe_mkr M T hr (by rfl) (pa_cons (pe_ix ix_tup (pv 4) pe_int (fun _ _ => rfl)) (pa_cons (pe_ix ix_tup (pv 4) pe_int (fun _ _ => rfl)) (pa_cons (pe_ix ix_tup (pv 4) pe_int (fun _ _ => rfl)) (pa_cons (pe_ix ix_tup (pv 4) pe_int (fun _ _ => rfl)) pa_nil)))))))), ?_⟩
    refine ⟨_, rfl, _, rfl, _, rfl, _, rfl, e, r, s, b, es, rs, u, rfl, hE, hR, hp, hb, hs, fun t Fm H1 e1 hf hF => ?_⟩
    obtain ⟨te, tr, h1, h2, h3⟩ := hf
    have b1 : Fm.start ≤ s := hF.start_le hp.pos hp.per
    have b2 : Fm.base ≤ b := Nat.le_of_dvd hp.pos (hF.base_dvd hp.per)
    refine ⟨_, rfl, t, _, 1, _, rfl, rfl, st_of h1, atI_nat (j := 1) rfl, _, _, rfl, rfl, _, rfl, itF (decide_eq_false (by omega)) ?_⟩
    refine ⟨_, rfl, t, _, 2, _, rfl, rfl, st_of h1, atI_nat (j := 2) rfl, _, _, rfl, rfl, _, rfl, itF (decide_eq_false (by omega)) ?_⟩
    refine ⟨_, rfl, t, _, 0, _, rfl, rfl, st_of h1, atI_nat (j := 0) rfl, _, rfl, t, _, 1, _, rfl, rfl, st_of h1, atI_nat (j := 1) rfl, _, rfl, t, _, 2, _, rfl, rfl, st_of h1, atI_nat (j := 2) rfl, _, rfl, t, _, 3, _, rfl, rfl, st_of h1, atI_nat (j := 3) rfl, ?_⟩
    exact made h2 h3 hF.pre (by omega) (by omega) fun a H' e2 hc => q a H' (e1.trans e2) hc
end
end K67
set_option Elab.async false
set_option linter.all false
set_option maxRecDepth 100000
set_option maxHeartbeats 8000000
namespace K67
open PySem L2 Evl
theorem gath_fm (u : Nat → Bool) (s b : Nat) : ((((List.range b).map fun i => s + i).filter u).map fun n => V.int ((n % b : Nat) : Int)) = iv (gath u s b) := by
  unfold iv gath
  rw [List.filter_map, List.map_map, List.map_map]
  rfl
section
variable {P : Program} {w : World} {K : PySem.W.Frag} {mg : Str → Option Value} {base : Heap} {C : Addr}
/-! ### circle_by -/
abbrev sBy : Stmt := topS 26
theorem scBy : FnScope ["truths", "start", "base", "early", "rests", "number"] ["truths", "start", "base"] (defScope sBy) := ⟨rfl, rfl, rfl, by decide +kernel, rfl, by decide +kernel, by decide +kernel⟩
def spBy (C : Addr) : Sp := fun vs H Q _ => ∃ (l : Addr) (s b : Nat) (u : Nat → Bool), vs = [.ref l, .int (s : Int), .int (b : Int)] ∧ H l = some (.lst (bv u (s + b))) ∧ Per u s b ∧ 0 < b ∧ b < 31 ∧ s ≤ 900 ∧
  ∀ (a : Addr) (H' : Hp), Ex H H' → Circ C H' a u → Q (.ref a) H'
theorem ok_by {f : Addr} {fd : FuncData} (F : Fun K "circle_by" "circle_by" sBy f fd) (B : Bt mg) (G : Fn P w K mg base 6 "circle_with" ["early", "start", "base", "rests"] (spCW K C)) : FnOk P w K mg base CX0 7 f fd ["truths", "start", "base"] (spBy C) := by
  refine F.ok scBy (fun vs H Q E h => ?_) (fun cdv A outer sh H vs Q E hr h => ?_)
  · obtain ⟨l, s, b, u, rfl, _⟩ := h
    rfl
  · obtain ⟨l, s, b, u, rfl, hl, hp, hb0, hb, hs, q⟩ := h
    refine ⟨_, pss_cons (ps_setLc (i := 3) (own := [("number", 5)]) (g := gName 5) rfl scBy.nd rfl rfl (sw_true rfl rfl rfl (by decide +kernel)) (pi_range1 (by rfl) B.range (pa_cons (pv 1) pa_nil)) (blkOk_by (N := ["truths", "start", "base", "early", "rests", "number"]) (sc := defScope sBy) (by decide +kernel)) (fun _ _ _ _ _ => pg_name (i := 5) scBy.nd rfl (.inl rfl)) (fun _ _ _ _ _ => pts_one (pt_val (pe_ix (r := rIxL K) ix_list (pv 0) (pv 5) (fun _ _ => rfl))))
          (fun _ _ _ _ _ => pv 5))
      (pss_cons (ps_set (i := 4) scBy.nd rfl (.inl rfl) (pe_callB cr_sortedI (by rfl) B.sorted (by decide +kernel) (pa_cons
        (pe_lc (own := [("number", 5)]) (g := gName 5) rfl scBy.nd (pi_range2 (by rfl) B.range (pa_cons (pv 1) (pa_cons (pe_op op_add (pv 1) (pv 2)) pa_nil))) (blkOk_by (N := ["truths", "start", "base", "early", "rests", "number"]) (sc := defScope sBy) (by decide +kernel)) (fun _ _ _ _ _ => pg_name (i := 5) scBy.nd rfl (.inl rfl)) (fun _ _ _ _ _ => pts_one (pt_val (pe_ix (r := rIxL K) ix_list (pv 0) (pv 5) (fun _ _ => rfl))))
          (fun _ _ _ _ _ => pe_op op_mod (pv 5) (pv 2))) pa_nil)))
      (pss_one (ps_ret (pe_fn G hr (by rfl) (pa_cons (pv 3) (pa_cons (pv 1) (pa_cons (pv 2) (pa_cons (pv 4) pa_nil)))))))), ?_⟩
    refine ⟨_, rfl, (s : Int), rfl, by omega, by omega, fun D nD => ?_⟩
    have ix : ∀ {H1 : Hp} {n : Nat}, H1 l = some (.lst (bv u (s + b))) → n < s + b → ∃ a xs i x, V.ref l = .ref a ∧ V.int (n : Int) = .int i ∧ SqL K H1 a xs ∧ atI xs i = some x ∧ x = .bl (u n) := fun {H1 n} h hn => ⟨l, _, _, _, rfl, rfl, sq_of h, atI_nat (bv_at hn), rfl⟩
    show ∃ W, _
    rw [Int.toNat_natCast]
    refine lc_fm (fl := u) (vf := fun n => .int (n : Int)) wk_range0 nD (by rw [List.length_range]; omega) (fun n H1 hn e1 Q' z => ?_) (fun n H1 hn _ e1 Q' z => ⟨_, rfl, z H1 (Ex.refl _)⟩) (fun H1 e1 h1 => ?_)
    · have hn : n < s := by simpa using hn
      exact ⟨_, rfl, _, rfl, l, _, _, _, rfl, rfl, sq_of (e1 _ _ hl), atI_nat (bv_at (by omega)), _, rfl, z H1 (Ex.refl _)⟩
    · refine ⟨_, rfl, _, rfl, _, rfl, _, _, rfl, rfl, (s : Int), (s : Int) + (b : Int), rfl, ⟨by omega, by omega, by omega, by omega⟩, fun D2 nD2 => ?_⟩
      have eb : ((s : Int) + (b : Int) - (s : Int)).toNat = b := by omega
      rw [eb]
      refine lc_fm (fl := u) (vf := fun n => .int ((n % b : Nat) : Int)) wk_range nD2 (by rw [List.length_map, List.length_range]; omega) (fun n H2 hn e2 Q' z => ?_) (fun n H2 hn _ e2 Q' z => ⟨_, rfl, _, rfl, _, _, rfl, rfl, (by show (0 : Int) < b; omega), z H2 (Ex.refl _)⟩) (fun H2 e2 h2 => ?_)
      · obtain ⟨i, hi, rfl⟩ := List.mem_map.mp hn
        have hi : i < b := by simpa using hi
        exact ⟨_, rfl, _, rfl, l, _, _, _, rfl, rfl, sq_of (e2 _ _ (e1 _ _ hl)), atI_nat (bv_at (by omega)), _, rfl, z H2 (Ex.refl _)⟩
      · rw [gath_fm, iv_ints] at h2
        refine ⟨D2, zs (gath u s b), rfl, sq_of h2, fun ns' p hperm hrise np => ?_⟩
        have hns : ns' = zs ((List.range b).filter fun r => u (r + b * s)) := sorted_is (gath_nodup _ _ _) hperm hrise (range_strict _ _) (gath_mem hp hb0)
        have e3 := ex_up (o := .lst (ns'.map V.int)) e2 np
        refine ⟨_, rfl, _, rfl, _, rfl, _, rfl, D, p, s, b, (List.range s).filter u, (List.range b).filter fun r => u (r + b * s), u, rfl, .inl (sq_of (e3 _ _ h1)), .inl (sq_of ?_), ⟨hb0, hp, rfl, rfl⟩, hb, by omega, fun a H' e4 hc => q a H' ((e1.trans e3).trans e4) hc⟩
        rw [upd_same, iv_ints, ← hns]
/-! ### truths_of -/
abbrev sTo : Stmt := topS 27
abbrev nTo : List Str := ["one", "many", "early", "rests", "again", "number", "rest"]
theorem scTo : FnScope nTo ["one", "many"] (defScope sTo) := ⟨rfl, rfl, rfl, by decide +kernel, rfl, by decide +kernel, by decide +kernel⟩
def spTo (C : Addr) : Sp := fun vs H Q _ => ∃ (a : Addr) (n : Nat) (u : Nat → Bool) (F : Frm), vs = [.ref a, .int (n : Int)] ∧ CircF C H a F ∧ IsForm u F ∧ F.start ≤ 900 ∧ F.base ≤ 900 ∧ n ≤ 1000 ∧
  ∀ (l : Addr) (H' : Hp), Ex H H' → H' l = some (.lst (bv u n)) → Q (.ref l) H'
theorem filt_len (n : Nat) (g : Nat → Bool) : ((List.range n).filter g).length ≤ n := by
  have := List.length_filter_le g (List.range n)
  rwa [List.length_range] at this
theorem dict_go {H H1 : Hp} {D : Addr} {ps : List Addr} {ns : List Nat} {Q : VK} (e1 : Ex H H1) (h1 : H1 D = some (.lst (ps.map V.ref))) (h2 : Paired (fun p kv => H1 p = some (.tup [kV kv.1, kv.2])) ps (kvT ns)) (q : ∀ d H2, Ex H H2 → H2 d = some (.dK (kvT (uniq ns))) → Q (.ref d) H2) :
    ∃ (a : Addr) (qs : List Addr) (kvs : List (Key × V)), [V.ref D] = [.ref a] ∧ SqL K H1 a (qs.map V.ref) ∧ Paired (fun p kv => SqT K H1 p [kV kv.1, kv.2]) qs kvs ∧ ∀ d, H1 d = none → Q (.ref d) (upd H1 d (.dK (mergeK [] kvs))) :=
  ⟨D, ps, _, rfl, sq_of h1, L2.Paired.mapP h2 fun _ _ z => st_of z, fun d nd => q d _ (ex_up e1 nd) (by rw [upd_same, merge_kvT])⟩
theorem ok_to {f : Addr} {fd : FuncData} (F : Fun K "truths_of" "truths_of" sTo f fd) (B : Bt mg) (T : Ct K mg C) (Gs : Gts P w K mg base C) : FnOk P w K mg base CX0 3 f fd ["one", "many"] (spTo C) := by
  refine F.ok scTo (fun vs H Q E h => ?_) (fun cdv A outer sh H vs Q E hr h => ?_)
  · obtain ⟨a, n, u, F, rfl, _⟩ := h
    rfl
  · obtain ⟨a, n, u, Fm, rfl, hF, hI, hs, hb, hn, q⟩ := h
    refine ⟨_, pss_cons (ps_set (i := 2) scTo.nd rfl (.inr rfl) (pe_callTy (call_dictP rfl) (by rfl) B.dict (by decide +kernel) (pa_cons
        (pe_lc (own := [("number", 5)]) (g := gName 5) (tt := tYes) rfl scTo.nd (pi_tup (pe_gt Gs.early T hr (pv 0))) (blkOk_by (N := nTo) (sc := defScope sTo) (by decide +kernel)) (fun _ _ _ _ _ => pg_name (i := 5) scTo.nd rfl (.inl rfl)) (fun _ _ _ _ _ => pts_nil)
          (fun _ _ _ _ _ => pe_tup (pa_cons (pv 5) (pa_cons pe_bl pa_nil)))) pa_nil)))
      (pss_cons (ps_set (i := 3) scTo.nd rfl (.inr rfl) (pe_callTy (call_dictP rfl) (by rfl) B.dict (by decide +kernel) (pa_cons
        (pe_lc (own := [("rest", 6)]) (g := gName 6) (tt := tYes) rfl scTo.nd (pi_tup (pe_gt Gs.rests T hr (pv 0))) (blkOk_by (N := nTo) (sc := defScope sTo) (by decide +kernel)) (fun _ _ _ _ _ => pg_name (i := 6) scTo.nd rfl (.inl rfl)) (fun _ _ _ _ _ => pts_nil)
          (fun _ _ _ _ _ => pe_tup (pa_cons (pv 6) (pa_cons pe_bl pa_nil)))) pa_nil)))
      (pss_cons (ps_set (i := 4) scTo.nd rfl (.inr rfl)
        (pe_lc (own := [("rest", 6)]) (g := gName 6) (tt := tYes) rfl scTo.nd (pi_range1 (by rfl) B.range (pa_cons (pe_gt Gs.base_ T hr (pv 0)) pa_nil)) (blkOk_by (N := nTo) (sc := defScope sTo) (by decide +kernel)) (fun _ _ _ _ _ => pg_name (i := 6) scTo.nd rfl (.inl rfl)) (fun _ _ _ _ _ => pts_nil)
          (fun _ _ _ _ _ => pe_cmp (pc_din (hu_of hr) (pv 6) (pv 3)))))
      (pss_one (ps_ret
        (pe_lc (own := [("number", 5)]) (g := gName 5) (tt := tYes) rfl scTo.nd (pi_range1 (by rfl) B.range (pa_cons (pv 1) pa_nil)) (blkOk_by (N := nTo) (sc := defScope sTo) (by decide +kernel)) (fun _ _ _ _ _ => pg_name (i := 5) scTo.nd rfl (.inl rfl)) (fun _ _ _ _ _ => pts_nil)
          (fun _ _ _ _ _ => pe_ifExp (pt_cmpR op_lt (pv 5) (pe_gt Gs.start T hr (pv 0)) (nomark _)) (pe_cmp (pc_din (hu_of hr) (pv 5) (pv 2))) (pe_ix (r := rIxL K) ix_list (pv 4) (pe_op op_mod (pv 5) (pe_gt Gs.base_ T hr (pv 0))) (fun _ _ => rfl)))))))), ?_⟩
    have hel : Fm.early.length ≤ 1000 := by
      rw [hI.earl]
      have := filt_len Fm.start u
      omega
    have hrl : Fm.rests.length ≤ 1000 := by
      rw [hI.rst]
      have := filt_len Fm.base fun r => u (r + Fm.base * Fm.start)
      omega
    -- early
    refine get_early rfl hF fun te hte => ⟨te, rfl, ⟨_, st_of hte⟩, fun D nD => lc_kv (hf := fun n => n) (wk_tup (st_of (K := K) hte)) nD hel (fun m H' _ _ Q z => ⟨_, rfl, z⟩) fun ps H1 e1 h1 h2 => ?_⟩
    rw [List.map_id'] at h2
    refine dict_go (Q := fun v H' => gName 2 v _ H' _) e1 h1 h2 fun d1 H2 e2 hd1 => ?_
    -- rests
    refine get_rests rfl (hF.ex e2) fun tr htr => ⟨tr, rfl, ⟨_, st_of htr⟩, fun D nD => lc_kv (hf := fun n => n) (wk_tup (st_of (K := K) htr)) nD hrl (fun m H' _ _ Q z => ⟨_, rfl, z⟩) fun ps H3 e3 h1 h2 => ?_⟩
    rw [List.map_id'] at h2
    refine dict_go (Q := fun v H' => gName 3 v _ H' _) e3 h1 h2 fun d2 H4 e4 hd2 => ?_
    have e24 := e2.trans e4
    -- again
    refine get_base rfl (hF.ex e24) ⟨(Fm.base : Int), rfl, by omega, by omega, fun D nD => ?_⟩
    rw [Int.toNat_natCast]
    refine lc_all (vf := fun r => .bl (decide (r ∈ uniq Fm.rests))) wk_range0 nD (by rw [List.length_range]; omega) (fun m H5 hm e5 Q' z => ?_) (fun H5 e5 hl => ?_)
    · refine ⟨_, rfl, _, rfl, d2, _, rfl, .inl ⟨kvT (uniq Fm.rests), .inl (m : Int), .inl (e5 _ _ hd2), rfl, rfl⟩, ?_⟩
      rw [valV_kvT]
      exact z H5 (Ex.refl _)
    · have e25 := e24.trans e5
      refine ⟨_, rfl, (n : Int), rfl, by omega, by omega, fun D2 nD2 => ?_⟩
      rw [Int.toNat_natCast]
      refine lc_all (vf := fun x => .bl (u x)) wk_range0 nD2 (by rw [List.length_range]; omega) (fun m H6 hm e6 Q' z => ?_) (fun H6 e6 hl6 => q _ _ (e25.trans e6) hl6)
      have z := z H6 (Ex.refl _)
      have e26 := e25.trans e6
      refine ⟨_, rfl, get_start rfl (hF.ex e26) ⟨_, _, rfl, rfl, _, rfl, itB (fun hc => ?_) (fun hc => ?_)⟩⟩
      · have hc : m < Fm.start := by
          have : (m : Int) < (Fm.start : Int) := of_decide_eq_true hc
          omega
        refine ⟨_, rfl, _, rfl, d1, _, rfl, .inl ⟨kvT (uniq Fm.early), .inl (m : Int), .inl (e6 _ _ (e5 _ _ (e4 _ _ hd1))), rfl, rfl⟩, ?_⟩
        have he : decide (m ∈ uniq Fm.early) = u m := by
          rw [Bool.eq_iff_iff, decide_eq_true_iff, uniq_mem, hI.earl, List.mem_filter, List.mem_range]
          exact ⟨fun z => z.2, fun z => ⟨hc, z⟩⟩
        rw [valV_kvT, he]
        exact z
      · have hc : Fm.start ≤ m := by
          have : ¬ (m : Int) < (Fm.start : Int) := of_decide_eq_false hc
          omega
        refine ⟨_, rfl, _, rfl, get_base rfl (hF.ex e26) ⟨_, _, rfl, rfl, (by have := hI.pos; show (0 : Int) < Fm.base; omega), D, _, ((m % Fm.base : Nat) : Int), .bl (decide (m % Fm.base ∈ uniq Fm.rests)), rfl, rfl, sq_of (e6 _ _ hl), atI_nat ?_, ?_⟩⟩
        · rw [List.getElem?_map, List.getElem?_range (Nat.mod_lt _ hI.pos)]
          rfl
        · have he : decide (m % Fm.base ∈ uniq Fm.rests) = u m := by
            rw [Bool.eq_iff_iff, decide_eq_true_iff, uniq_mem, hI.rst, List.mem_filter, List.mem_range]
            have h1 : u (m % Fm.base + Fm.base * Fm.start) = u (m + Fm.base * Fm.start) := (tail_all hI.per hI.pos).mod_ m
            rw [h1, tail_eq hI.per m hc]
            exact ⟨fun z => z.2, fun z => ⟨Nat.mod_lt _ hI.pos, z⟩⟩
          rw [he]
          exact z
/-! ### circle_of(()) -/
abbrev sOf : Stmt := topS 28
theorem scOf : FnScope ["values", "index", "value", "early"] ["values"] (defScope sOf) := ⟨rfl, rfl, rfl, by decide +kernel, rfl, by decide +kernel, by decide +kernel⟩
def spOf (C : Addr) : Sp := fun vs H Q _ => ∃ t : Addr, vs = [.ref t] ∧ H t = some (.tup []) ∧ ∀ (a : Addr) (H' : Hp), Ex H H' → Circ C H' a (fun _ => false) → Q (.ref a) H'
theorem ok_of {f : Addr} {fd : FuncData} (F : Fun K "circle_of" "circle_of" sOf f fd) (B : Bt mg) (T : Ct K mg C) (GI : Fn P w K mg base 2 "is_between" ["value", "least", "most"] spIsBetween) (G : Fn P w K mg base 6 "circle_with" ["early", "start", "base", "rests"] (spCW K C)) : FnOk P w K mg base CX0 7 f fd ["values"] (spOf C) := by
  refine F.ok scOf (fun vs H Q E h => ?_) (fun cdv A outer sh H vs Q E hr h => ?_)
  · obtain ⟨t, rfl, _⟩ := h
    rfl
  · obtain ⟨t, rfl, ht, q⟩ := h
    obtain ⟨tm, hmc⟩ := T.mc
    have hr2 : Room 2 (cxOf CX0 P w K mg base ["values", "index", "value", "early"] "circle_of" (defScope sOf) f cdv A outer sh H E).nox.A := hr.mono (by decide)
    refine ⟨_, pss_cons (ps_if (pt_not (pt_val (pe_callB call_isi (by rfl) B.isinstance (by decide +kernel) (pa_cons (pv 0) (pa_cons (pe_bltn (v := .ty "tuple") (by rfl) B.tuple (by decide +kernel) rfl) pa_nil))))) (pss_one ps_never) pss_nil)
      (pss_cons (ps_for PassesOwn.never rfl (K67R.pi_enumT (by rfl) B.enumerate (pa_cons (pv 0) pa_nil)) (pg_tup rfl (pgs_cons (pg_name (i := 1) scOf.nd rfl (.inl rfl)) (pgs_cons (pg_name (i := 2) scOf.nd rfl (.inl rfl)) pgs_nil)))
        (pss_one (ps_if (pt_not (pt_val (pe_fn GI hr2 (by rfl) (pa_cons (pv 2) (pa_cons pe_int (pa_cons (pe_glob (v := .int 20000) (by rfl) hmc ⟨_, rfl⟩) pa_nil)))))) (pss_one ps_never) pss_nil)))
      (pss_cons (ps_set (i := 3) scOf.nd rfl (.inl rfl) (pe_callB (cr_sortedSet rfl) (by rfl) B.sorted (by decide +kernel) (pa_cons (pe_callTy (cr_set_empty rfl) (by rfl) B.set (by decide +kernel) (pa_cons (pv 0) pa_nil)) pa_nil)))
      (pss_one (ps_ret (pe_fn G hr (by rfl) (pa_cons (pv 3) (pa_cons (pe_ifExp (pt_cmpR op_gt (pe_callB call_len_seq (by rfl) B.len PySem.boot_len (pa_cons (pv 3) pa_nil)) pe_int (nomark _)) (pe_op op_add (pe_ix ix_list (pv 3) (pe_un un_neg pe_int) (fun _ _ => rfl)) pe_int) pe_int) (pa_cons pe_int (pa_cons (pe_tup pa_nil) pa_nil))))))))), ?_⟩
    refine ⟨_, rfl, _, _, .type "tuple", _, true, rfl, .ty "tuple", .base (.tup ht), kit_ty (by decide +kernel), _, rfl, itF rfl ?_⟩
    refine ⟨_, rfl, t, [], rfl, st_of ht, for_any (n := 0) (fun i σ H2 => i = 0 ∧ σ = [some (.ref t), none, none, none] ∧ H2 = H)
      (fun i σ H2 hi _ => by omega) (fun σ H2 ⟨_, _, e⟩ => ⟨[], st_of (by rw [e]; exact ht), by simp⟩) ⟨rfl, rfl, rfl⟩ (fun i x σ H2 H' hi => by omega) ?_⟩
    rintro σ H2 ⟨_, rfl, rfl⟩
    refine ⟨_, rfl, t, rfl, ht, fun a na => ?_⟩
    refine ⟨a, _, 0, rfl, upd_same, by decide, fun ns p h1 h2 h3 np => ?_⟩
    obtain rfl : ns = [] := List.length_eq_zero_iff.mp h3
    have e2 : Ex H2 (upd (upd H2 a (SetO w a (fun _ => false) 0)) p (.lst [])) := ex_up (Ex.new na) np
    refine ⟨_, rfl, _, rfl, p, _, rfl, .inl (sq_of upd_same), _, _, rfl, rfl, _, rfl, itF (by decide) ⟨by show 0 ≤ sizeLine; decide, fun t2 nt2 => ?_⟩⟩
    refine ⟨p, t2, 0, 1, [], [], fun _ => false, rfl, .inl (sq_of ((Ex.new nt2) _ _ upd_same)), .inr (st_of upd_same), ⟨by decide, fun _ _ => rfl, rfl, rfl⟩, by decide, by decide, fun b H' e3 hc => q b H' ((ex_up e2 nt2).trans e3) hc⟩
end
end K67
set_option Elab.async false
set_option linter.all false
set_option maxRecDepth 100000
set_option maxHeartbeats 8000000
namespace K67
open PySem L2 Evl
/-! ### two circles that come round together -/
def Tw (C : Addr) (H : Hp) (a b : Addr) (u v : Nat → Bool) : Prop := Circ C H a u ∧ Circ C H b v ∧ ∃ M, 0 < M ∧ M ≤ 30 ∧ Per u 6 M ∧ Per v 6 M
theorem Per.dvd {f : Nat → Bool} {s s' p q : Nat} (h : Per f s p) (e : s ≤ s') (d : p ∣ q) : Per f s' q := fun x hx => by
  obtain ⟨k, rfl⟩ := d
  exact h.mul k x (Nat.le_trans e hx)
structure TwF (C : Addr) (H : Hp) (a b : Addr) (u v : Nat → Bool) (F G : Frm) : Prop where
  cf : CircF C H a F
  cg : CircF C H b G
  fu : IsForm u F
  fv : IsForm v G
  s1 : F.start ≤ 6
  s2 : G.start ≤ 6
  b1 : F.base ≤ 30
  b2 : G.base ≤ 30
  l0 : 0 < Nat.lcm F.base G.base
  l1 : Nat.lcm F.base G.base ≤ 30
  pu : Per u (max F.start G.start) (Nat.lcm F.base G.base)
  pv : Per v (max F.start G.start) (Nat.lcm F.base G.base)
theorem TwF.ex {C : Addr} {H H' : Hp} {a b : Addr} {u v : Nat → Bool} {F G : Frm} (h : TwF C H a b u v F G) (e : Ex H H') : TwF C H' a b u v F G :=
  ⟨h.cf.ex e, h.cg.ex e, h.fu, h.fv, h.s1, h.s2, h.b1, h.b2, h.l0, h.l1, h.pu, h.pv⟩
theorem Tw.forms {C : Addr} {H : Hp} {a b : Addr} {u v : Nat → Bool} (h : Tw C H a b u v) : ∃ F G, TwF C H a b u v F G := by
  obtain ⟨h1, h2, M, m0, m1, p1, p2⟩ := h
  obtain ⟨F, f1, f2⟩ := h1.form
  obtain ⟨G, g1, g2⟩ := h2.form
  have d1 := f2.base_dvd p1
  have d2 := g2.base_dvd p2
  have dl := Nat.lcm_dvd d1 d2
  refine ⟨F, G, f1, g1, f2, g2, f2.start_le m0 p1, g2.start_le m0 p2, Nat.le_trans (Nat.le_of_dvd m0 d1) m1, Nat.le_trans (Nat.le_of_dvd m0 d2) m1, Nat.lcm_pos f2.pos g2.pos, Nat.le_trans (Nat.le_of_dvd m0 dl) m1, f2.per.dvd (Nat.le_max_left _ _) (Nat.dvd_lcm_left _ _), g2.per.dvd (Nat.le_max_right _ _) (Nat.dvd_lcm_right _ _)⟩
theorem max_int (m n : Nat) : (if (n : Int) > (m : Int) then (n : Int) else (m : Int)) = ((max m n : Nat) : Int) := by
  split <;> omega
/-- over zip of two lists of one length -/
theorem lc_zip {K : PySem.W.Frag} {a b : Addr} {xs ys : List V} {g : TG} {tt : TT} {te : TE} {vs : List Nat} {σ : L2.St} {H1 : Hp} {D : Addr} {Qd : Hp → Prop} (hl : xs.length = ys.length) (Pv : Nat → Hp → Prop) (h0 : Pv 0 (upd H1 D (.lst []))) (hq : ∀ i H, Pv i H → SqL K H a xs ∧ SqL K H b ys)
    (hs : ∀ (i : Nat) (x y : V) (T : Addr) (H : Hp), xs[i]? = some x → ys[i]? = some y → Pv i H → H T = none → g (.ref T) (wipe σ vs) (upd H T (.tup [x, y])) fun σ2 H2 => wipe σ2 vs = wipe σ vs ∧ tt σ2 H2 fun b H3 =>
      if b = true then te σ2 H3 fun y H4 => ∃ acc, H4 D = some (.lst acc) ∧ acc.length < sizeLine ∧ Pv (i + 1) (upd H4 D (.lst (acc ++ [y]))) else Pv (i + 1) H3) (hd : ∀ H, Pv xs.length H → Qd H) :
    ∃ W : Nat → Nat → Hp → Prop, (∃ m, W 0 m (upd H1 D (.lst []))) ∧ ∀ i m H, W i m H →
      ((Itz K a b).stop i H ∧ Qd H) ∨ ((Itz K a b).go i H ∧ ∃ Nx : Hp → Prop, (∀ H', Nx H' → ∃ m', m' < m ∧ W (i + 1) m' H') ∧ ∀ x H', (Itz K a b).yld i H x H' → g x (wipe σ vs) H' fun σ2 H2 => wipe σ2 vs = wipe σ vs ∧ tt σ2 H2 fun b H3 =>
        if b = true then te σ2 H3 fun y H4 => ∃ acc, H4 D = some (.lst acc) ∧ acc.length < sizeLine ∧ Nx (upd H4 D (.lst (acc ++ [y]))) else Nx H3) := by
  refine ⟨fun i m H => m = xs.length - i ∧ i ≤ xs.length ∧ Pv i H, ⟨xs.length, rfl, Nat.zero_le _, h0⟩, ?_⟩
  rintro i m H ⟨rfl, hi, p⟩
  obtain ⟨qx, qy⟩ := hq i H p
  by_cases hlt : i < xs.length
  · have hx : xs[i]? = some xs[i] := List.getElem?_eq_getElem hlt
    have hlt2 : i < ys.length := by omega
    have hy : ys[i]? = some ys[i] := List.getElem?_eq_getElem hlt2
    refine .inr ⟨⟨xs, ys, _, _, qx, qy, hx, hy⟩, Pv (i + 1), fun H' p' => ⟨xs.length - (i + 1), by omega, rfl, hlt, p'⟩, fun v H' y => ?_⟩
    obtain ⟨T, x', y', rfl, hT, rfl, f1, f2⟩ := y
    exact hs i x' y' T H (f1 xs qx) (f2 ys qy) p hT
  · have e : i = xs.length := by omega
    subst e
    exact .inl ⟨⟨xs, ys, qx, qy, Or.inl (Nat.le_refl _)⟩, hd H p⟩
theorem bv_take {f : Nat → Bool} {n i : Nat} (h : i < n) : bv f (i + 1) = bv f i ++ [.bl (f i)] := by
  unfold bv
  rw [List.range_succ, List.map_append]
  rfl
section
variable {P : Program} {w : World} {K : PySem.W.Frag} {mg : Str → Option Value} {base : Heap} {C : Addr}
/-! ### matched -/
abbrev sMt : Stmt := topS 29
abbrev nMt : List Str := ["one", "other", "told", "base", "start", "near", "far", "here", "there"]
theorem scMt : FnScope nMt ["one", "other", "told"] (defScope sMt) := ⟨rfl, rfl, rfl, by decide +kernel, rfl, by decide +kernel, by decide +kernel⟩
def spMt (P : Program) (w : World) (K : PySem.W.Frag) (mg : Str → Option Value) (base : Heap) (C : Addr) : Sp := fun vs H Q _ => ∃ (a b f : Addr) (u v : Nat → Bool) (t : Bool → Bool → Bool), vs = [.ref a, .ref b, .ref f] ∧ Tw C H a b u v ∧ K67R.IsLam P w K mg base t f H ∧
  ∀ (r : Addr) (H' : Hp), Ex H H' → Circ C H' r (fun x => t (u x) (v x)) → Q (.ref r) H'
theorem islam_ex {t : Bool → Bool → Bool} {f : Addr} {H H' : Hp} (l : K67R.IsLam P w K mg base t f H) (e : Ex H H') : K67R.IsLam P w K mg base t f H' := l.keep fun b o h _ => e b o h
theorem ok_mt {f : Addr} {fd : FuncData} (F : Fun K "matched" "matched" sMt f fd) (B : Bt mg) (T : Ct K mg C) (Gs : Gts P w K mg base C) (GC : Fn P w K mg base 3 "common_base" ["one", "other"] (spCB C)) (GT : Fn P w K mg base 3 "truths_of" ["one", "many"] (spTo C)) (GB : Fn P w K mg base 7 "circle_by" ["truths", "start", "base"] (spBy C)) :
    FnOk P w K mg base CX0 8 f fd ["one", "other", "told"] (spMt P w K mg base C) := by
  refine F.ok scMt (fun vs H Q E h => ?_) (fun cdv A outer sh H vs Q E hr h => ?_)
  · obtain ⟨a, b, g, u, v, t, rfl, _⟩ := h
    rfl
  · obtain ⟨a, b, g, u, v, t, rfl, hT, hL, q⟩ := h
    obtain ⟨Fa, Fb, W⟩ := hT.forms
    have hr3 : Room 3 (cxOf CX0 P w K mg base nMt "matched" (defScope sMt) f cdv A outer sh H E).nox.A := hr.mono (by decide)
    have hr2 : Room 2 (cxOf CX0 P w K mg base nMt "matched" (defScope sMt) f cdv A outer sh H E).nox.A := hr.mono (by decide)
    have hr1 : Room 1 (cxOf CX0 P w K mg base nMt "matched" (defScope sMt) f cdv A outer sh H E).nox.A := hr.mono (by decide)
    refine ⟨_, pss_cons (ps_par (i := 3) (j := 4) (by rfl) scMt.nd rfl rfl (by decide) rfl rfl (pa_cons (pe_fn GC hr3 (by rfl) (pa_cons (pv 0) (pa_cons (pv 1) pa_nil))) (pa_cons (pe_callB (call_max2 rfl) (by rfl) B.max (by decide +kernel) (pa_cons (pe_gt Gs.start T hr2 (pv 0)) (pa_cons (pe_gt Gs.start T hr2 (pv 1)) pa_nil))) pa_nil)) (by rfl))
      (pss_cons (ps_par (i := 5) (j := 6) (by rfl) scMt.nd rfl rfl (by decide) rfl rfl (pa_cons (pe_fn GT hr3 (by rfl) (pa_cons (pv 0) (pa_cons (pe_op op_add (pv 4) (pv 3)) pa_nil))) (pa_cons (pe_fn GT hr3 (by rfl) (pa_cons (pv 1) (pa_cons (pe_op op_add (pv 4) (pv 3)) pa_nil))) pa_nil)) (by rfl))
      (pss_one (ps_ret (pe_fn GB hr (by rfl) (pa_cons
        (pe_lc (own := [("here", 7), ("there", 8)]) (tt := tYes) (g := gTup K 2 (gCons (gName 7) (gCons (gName 8) gNil))) (te := K67R.tLamC P w K mg base 2 (tCons (tVar 7) (tCons (tVar 8) tNil))) rfl scMt.nd (pi_zip (by rfl) B.zip (pa_cons (pv 5) (pa_cons (pv 6) pa_nil))) (blkOk_by (N := nMt) (sc := defScope sMt) (by decide +kernel)) (fun _ _ _ _ _ => pg_tup rfl (pgs_cons (pg_name (i := 7) scMt.nd rfl (.inl rfl)) (pgs_cons (pg_name (i := 8) scMt.nd rfl (.inl rfl)) pgs_nil))) (fun _ _ _ _ _ => pts_nil)
          (fun _ _ _ _ _ => K67R.pe_lamC (i := 2) (by exact hr1) rfl (by first | exact Or.inl rfl | exact Or.inr (Or.inl rfl) | exact Or.inr (Or.inr rfl)) (pa_cons (pv 7) (pa_cons (pv 8) pa_nil))))
        (pa_cons (pv 4) (pa_cons (pv 3) pa_nil))))))), ?_⟩
    refine ⟨_, rfl, _, rfl, a, b, Fa, Fb, rfl, W.cf, W.cg, W.fu.pos, by have := W.b1; omega, W.fv.pos, by have := W.b2; omega, by have := W.l1; omega, fun H1 e1 => ?_⟩
    have W1 := W.ex e1
    refine get_start rfl W1.cf (get_start rfl W1.cg ⟨_, _, rfl, _, _, rfl, ?_⟩)
    rw [max_int]
    have hm : max Fa.start Fb.start ≤ 6 := by have := W.s1; have := W.s2; omega
    have hl1 := W.l1
    have hl0 := W.l0
    have hpu := W.pu
    have hpv := W.pv
    generalize max Fa.start Fb.start = S at hm hpu hpv ⊢
    generalize Nat.lcm Fa.base Fb.base = L at hl1 hl0 hpu hpv ⊢
    -- near, far
    refine ⟨_, rfl, _, rfl, _, rfl, _, _, rfl, rfl, a, S + L, u, Fa, ?_, W1.cf, W.fu, by have := W.s1; omega, by have := W.b1; omega, by omega, fun l1 H2 e2 hn => ?_⟩
    · show [V.ref a, V.int ((S : Int) + (L : Int))] = _
      rw [← Int.natCast_add]
    have W2 := W1.ex e2
    refine ⟨_, rfl, _, rfl, _, rfl, _, _, rfl, rfl, b, S + L, v, Fb, ?_, W2.cg, W.fv, by have := W.s2; omega, by have := W.b2; omega, by omega, fun l2 H3 e3 hf => ⟨_, _, rfl, ?_⟩⟩
    · show [V.ref b, V.int ((S : Int) + (L : Int))] = _
      rw [← Int.natCast_add]
    have hn3 := e3 _ _ hn
    have e13 := (e1.trans e2).trans e3
    -- the list
    refine ⟨_, rfl, _, rfl, l1, l2, _, _, rfl, sq_of hn3, sq_of hf, fun D nD => lc_zip (by rw [bv_len, bv_len]) (fun i H4 => Ex H3 H4 ∧ H4 D = some (.lst (bv (fun x => t (u x) (v x)) i)) ∧ i ≤ S + L) ⟨Ex.new nD, upd_same, Nat.zero_le _⟩ (fun i H4 ⟨e4, _⟩ => ⟨sq_of (e4 _ _ hn3), sq_of (e4 _ _ hf)⟩) (fun i x y T H4 hx hy ⟨e4, hD, hi⟩ nT => ?_) (fun H4 ⟨e4, hD, _⟩ => ?_)⟩
    · obtain ⟨hi1, rfl⟩ := bv_get hx
      obtain ⟨_, rfl⟩ := bv_get hy
      have e5 := ex_up (o := .tup [.bl (u i), .bl (v i)]) e4 nT
      have nDT : D ≠ T := ne_of_none hD nT
      refine ⟨T, _, rfl, st_of upd_same, rfl, _, _, rfl, _, _, rfl, rfl, ?_⟩
      refine ⟨rfl, g, t, rfl, islam_ex hL (e13.trans e5), _, rfl, _, rfl, islam_ex hL (e13.trans e5), _, _, rfl, bv (fun x => t (u x) (v x)) i, ?_, ?_, e5.mut nD, ?_, hi1⟩
      · rw [upd_ne nDT]
        exact hD
      · rw [bv_len]
        exact small1000 (by omega)
      · rw [upd_same, bv_take hi1]
    · rw [bv_len] at hD
      refine ⟨_, rfl, _, rfl, D, S, L, fun x => t (u x) (v x), rfl, hD, hpu.map2 t hpv, hl0, by omega, by omega, fun r H5 e5 hc => q r H5 ((e13.trans e4).trans e5) hc⟩
end
end K67
set_option Elab.async false
set_option linter.all false
set_option maxRecDepth 100000
set_option maxHeartbeats 8000000
namespace K67
open PySem L2 Evl LamX
section
variable {P : Program} {w : World} {K : PySem.W.Frag} {mg : Str → Option Value} {base : Heap} {C : Addr}
/-! ### rest_of -/
abbrev sRe : Stmt := topS 33
theorem scRe : FnScope ["one", "truths", "truth"] ["one"] (defScope sRe) := ⟨rfl, rfl, rfl, by decide +kernel, rfl, by decide +kernel, by decide +kernel⟩
def spRe (C : Addr) : Sp := fun vs H Q _ => ∃ (a : Addr) (u : Nat → Bool) (M : Nat), vs = [.ref a] ∧ Circ C H a u ∧ 0 < M ∧ M ≤ 30 ∧ Per u 6 M ∧ ∀ (r : Addr) (H' : Hp), Ex H H' → Circ C H' r (fun x => !u x) → Q (.ref r) H'
theorem ok_re {f : Addr} {fd : FuncData} (F : Fun K "rest_of" "rest_of" sRe f fd) (T : Ct K mg C) (Gs : Gts P w K mg base C) (GK : Fn P w K mg base 1 "check_circle" ["value"] (spChk C)) (GT : Fn P w K mg base 3 "truths_of" ["one", "many"] (spTo C)) (GB : Fn P w K mg base 7 "circle_by" ["truths", "start", "base"] (spBy C)) :
    FnOk P w K mg base CX0 8 f fd ["one"] (spRe C) := by
  refine F.ok scRe (fun vs H Q E h => ?_) (fun cdv A outer sh H vs Q E hr h => ?_)
  · obtain ⟨a, u, M, rfl, _⟩ := h
    rfl
  · obtain ⟨a, u, M, rfl, hC, m0, m1, hp, q⟩ := h
    obtain ⟨Fa, cf, fu⟩ := hC.form
    have s1 := fu.start_le m0 hp
    have b1 := Nat.le_of_dvd m0 (fu.base_dvd hp)
    have hpos := fu.pos
    have hr3 : Room 3 (cxOf CX0 P w K mg base ["one", "truths", "truth"] "rest_of" (defScope sRe) f cdv A outer sh H E).nox.A := hr.mono (by decide)
    have hr2 : Room 2 (cxOf CX0 P w K mg base ["one", "truths", "truth"] "rest_of" (defScope sRe) f cdv A outer sh H E).nox.A := hr.mono (by decide)
    have hr1 : Room 1 (cxOf CX0 P w K mg base ["one", "truths", "truth"] "rest_of" (defScope sRe) f cdv A outer sh H E).nox.A := hr.mono (by decide)
    refine ⟨_, pss_cons (ps_expr (pe_fn GK hr1 (by rfl) (pa_cons (pv 0) pa_nil)))
      (pss_cons (ps_set (i := 1) scRe.nd rfl (.inl rfl) (pe_fn GT hr3 (by rfl) (pa_cons (pv 0) (pa_cons (pe_op op_add (pe_gt Gs.start T hr2 (pv 0)) (pe_gt Gs.base_ T hr2 (pv 0))) pa_nil))))
      (pss_one (ps_ret (pe_fn GB hr (by rfl) (pa_cons
        (pe_lc (own := [("truth", 2)]) (tt := tYes) (g := gName 2) rfl scRe.nd (pi_list (pv 1)) (blkOk_by (N := ["one", "truths", "truth"]) (sc := defScope sRe) (by decide +kernel)) (fun _ _ _ _ _ => pg_name (i := 2) scRe.nd rfl (.inl rfl)) (fun _ _ _ _ _ => pts_nil)
          (fun _ _ _ _ _ => pe_not (pv 2)))
        (pa_cons (pe_gt Gs.start T hr2 (pv 0)) (pa_cons (pe_gt Gs.base_ T hr2 (pv 0)) pa_nil))))))), ?_⟩
    obtain ⟨dx, tt, hin, hfa⟩ := id cf
    refine ⟨_, rfl, a, dx, _, rfl, hin, ?_⟩
    refine ⟨_, rfl, get_start rfl cf (get_base rfl cf ⟨_, _, rfl, rfl, a, Fa.start + Fa.base, u, Fa, ?_, cf, fu, by omega, by omega, by omega, fun l H1 e1 hl => ?_⟩)⟩
    · show [V.ref a, V.int ((Fa.start : Int) + (Fa.base : Int))] = _
      rw [← Int.natCast_add]
    have cf1 := cf.ex e1
    refine ⟨_, rfl, l, rfl, ⟨_, sq_of hl⟩, fun D nD => lc_any (n := Fa.start + Fa.base) (Y := fun i => .bl (u i)) (fun i H2 => Ex H1 H2 ∧ H2 D = some (.lst (bv (fun x => !u x) i)))
      (fun i H2 hi ⟨e2, _⟩ => ⟨_, _, sq_of (e2 _ _ hl), bv_at hi⟩) (fun H2 ⟨e2, _⟩ => ⟨_, sq_of (e2 _ _ hl), by rw [bv_len]; exact Nat.le_refl _⟩) (fun i H2 x H' hi ⟨e2, _⟩ y => ⟨y.1, ?_⟩) ⟨Ex.new nD, upd_same⟩ (fun i H2 hi ⟨e2, hD⟩ => ?_) (fun H2 ⟨e2, hD⟩ => ?_)⟩
    · have z := y.2 _ (sq_of (e2 _ _ hl))
      rw [bv_at hi] at z
      exact (Option.some.inj z).symm
    · refine ⟨rfl, yes_of ?_⟩
      refine ⟨_, rfl, _, rfl, _, hD, ?_, e2.mut nD, ?_⟩
      · rw [bv_len]
        exact small1000 (by omega)
      · rw [upd_same, bv_take hi]
    · refine get_start rfl (cf1.ex e2) (get_base rfl (cf1.ex e2) ?_)
      refine ⟨D, Fa.start, Fa.base, fun x => !u x, rfl, hD, fun x hx => ?_, hpos, by omega, by omega, fun r H3 e3 hc => q r H3 ((e1.trans e2).trans e3) hc⟩
      show (!u (x + Fa.base)) = !u x
      rw [fu.per x hx]
/-! ### first_where -/
abbrev sFw : Stmt := topS 34
abbrev nFw : List Str := ["one", "other", "told", "base", "many", "near", "far", "number"]
theorem scFw : FnScope nFw ["one", "other", "told"] (defScope sFw) := ⟨rfl, rfl, rfl, by decide +kernel, rfl, by decide +kernel, by decide +kernel⟩
/-- the first number that f holds of, or none -/
def First (f : Nat → Bool) (r : V) : Prop := (r = .non ∧ ∀ x, f x = false) ∨ ∃ k : Nat, r = .int (k : Int) ∧ k < 100 ∧ f k = true ∧ ∀ x, x < k → f x = false
def spFw (P : Program) (w : World) (K : PySem.W.Frag) (mg : Str → Option Value) (base : Heap) (C : Addr) : Sp := fun vs H Q _ => ∃ (a b f : Addr) (u v : Nat → Bool) (t : Bool → Bool → Bool), vs = [.ref a, .ref b, .ref f] ∧ Tw C H a b u v ∧ K67R.IsLam P w K mg base t f H ∧
  ∀ (r : V) (H' : Hp), Ex H H' → First (fun x => t (u x) (v x)) r → Q r H'
theorem ok_fw {f : Addr} {fd : FuncData} (F : Fun K "first_where" "first_where" sFw f fd) (B : Bt mg) (T : Ct K mg C) (Gs : Gts P w K mg base C) (GC : Fn P w K mg base 3 "common_base" ["one", "other"] (spCB C)) (GT : Fn P w K mg base 3 "truths_of" ["one", "many"] (spTo C)) :
    FnOk P w K mg base CX0 4 f fd ["one", "other", "told"] (spFw P w K mg base C) := by
  refine F.ok scFw (fun vs H Q E h => ?_) (fun cdv A outer sh H vs Q E hr h => ?_)
  · obtain ⟨a, b, g, u, v, t, rfl, _⟩ := h
    rfl
  · obtain ⟨a, b, g, u, v, t, rfl, hT, hL, q⟩ := h
    obtain ⟨Fa, Fb, W⟩ := hT.forms
    have hr2 : Room 2 (cxOf CX0 P w K mg base nFw "first_where" (defScope sFw) f cdv A outer sh H E).nox.A := hr.mono (by decide)
    have hr1 : Room 1 (cxOf CX0 P w K mg base nFw "first_where" (defScope sFw) f cdv A outer sh H E).nox.A := hr.mono (by decide)
    refine ⟨_, pss_cons (ps_set (i := 3) scFw.nd rfl (.inl rfl) (pe_fn GC hr (by rfl) (pa_cons (pv 0) (pa_cons (pv 1) pa_nil))))
      (pss_cons (ps_set (i := 4) scFw.nd rfl (.inl rfl) (pe_op op_add (pe_callB (call_max2 rfl) (by rfl) B.max (by decide +kernel) (pa_cons (pe_gt Gs.start T hr2 (pv 0)) (pa_cons (pe_gt Gs.start T hr2 (pv 1)) pa_nil))) (pv 3)))
      (pss_cons (ps_par (i := 5) (j := 6) (by rfl) scFw.nd rfl rfl (by decide) rfl rfl (pa_cons (pe_fn GT hr (by rfl) (pa_cons (pv 0) (pa_cons (pv 4) pa_nil))) (pa_cons (pe_fn GT hr (by rfl) (pa_cons (pv 1) (pa_cons (pv 4) pa_nil))) pa_nil)) (by rfl))
      (pss_cons (ps_for PassesOwn.never rfl (pi_range1 (by rfl) B.range (pa_cons (pv 4) pa_nil)) (pg_name (i := 7) scFw.nd rfl (.inl rfl))
        (pss_one (ps_if (pt_val (K67R.pe_lamC (i := 2) (by exact hr1) rfl (by first | exact Or.inl rfl | exact Or.inr (Or.inl rfl)) (pa_cons (pe_ix (r := rIxL K) ix_list (pv 5) (pv 7) (fun _ _ => rfl)) (pa_cons (pe_ix (r := rIxL K) ix_list (pv 6) (pv 7) (fun _ _ => rfl)) pa_nil))))
          (pss_one (ps_ret (pv 7))) pss_nil)))
      (pss_one (ps_ret pe_non))))), ?_⟩
    refine ⟨_, rfl, _, rfl, a, b, Fa, Fb, rfl, W.cf, W.cg, W.fu.pos, by have := W.b1; omega, W.fv.pos, by have := W.b2; omega, by have := W.l1; omega, fun H1 e1 => ?_⟩
    have W1 := W.ex e1
    refine get_start rfl W1.cf (get_start rfl W1.cg ⟨_, _, rfl, _, rfl, _, _, rfl, rfl, ?_⟩)
    rw [max_int]
    have hm : max Fa.start Fb.start ≤ 6 := by have := W.s1; have := W.s2; omega
    have hl1 := W.l1
    have hl0 := W.l0
    have hpu := W.pu
    have hpv := W.pv
    generalize max Fa.start Fb.start = S at hm hpu hpv ⊢
    generalize Nat.lcm Fa.base Fb.base = L at hl1 hl0 hpu hpv ⊢
    show gName 4 (V.int ((S : Int) + (L : Int))) (List.set (L2.start nFw [V.ref a, V.ref b, V.ref g]) 3 (some (V.int (L : Int)))) H1 _
    rw [← Int.natCast_add]
    have hpt := hpu.map2 t hpv
    -- near, far
    refine ⟨_, rfl, _, rfl, a, S + L, u, Fa, rfl, W1.cf, W.fu, by have := W.s1; omega, by have := W.b1; omega, by omega, fun l1 H2 e2 hn => ?_⟩
    have W2 := W1.ex e2
    refine ⟨_, rfl, _, rfl, b, S + L, v, Fb, rfl, W2.cg, W.fv, by have := W.s2; omega, by have := W.b2; omega, by omega, fun l2 H3 e3 hf => ⟨_, _, rfl, ?_⟩⟩
    have hn3 := e3 _ _ hn
    have e13 := (e1.trans e2).trans e3
    refine ⟨_, rfl, _, rfl, by omega, by omega, ?_⟩
    rw [Int.toNat_natCast]
    refine for_range (lo := 0) (n := S + L) (fun i σ H4 => ∃ x7, σ = [some (.ref a), some (.ref b), some (.ref g), some (.int (L : Int)), some (.int ((S + L : Nat) : Int)), some (.ref l1), some (.ref l2), x7] ∧ H4 = H3 ∧ ∀ x, x < i → t (u x) (v x) = false) ⟨none, rfl, rfl, fun x hx => absurd hx (Nat.not_lt_zero _)⟩ ?_ ?_
    · rintro i σ H4 hi ⟨x7, rfl, rfl, hno⟩
      rw [Int.zero_add]
      refine ⟨g, t, rfl, islam_ex hL e13, _, rfl, _, rfl, l1, _, _, _, rfl, rfl, sq_of hn3, atI_nat (bv_at hi), _, rfl, _, rfl, l2, _, _, _, rfl, rfl, sq_of hf, atI_nat (bv_at hi), islam_ex hL e13, _, _, rfl, _, rfl, itB (fun hc => ?_) (fun hc => ?_)⟩
      · exact ⟨_, rfl, q _ _ e13 (.inr ⟨i, rfl, by omega, hc, hno⟩)⟩
      · refine ⟨_, rfl, rfl, fun x hx => ?_⟩
        rcases Nat.lt_or_ge x i with z | z
        · exact hno x z
        · have : x = i := by omega
          rw [this]
          exact hc
    · rintro σ H4 ⟨x7, rfl, rfl, hno⟩
      refine q _ _ e13 (.inl ⟨rfl, fun x => ?_⟩)
      cases hx : t (u x) (v x) with
      | false => exact hx
      | true =>
        obtain ⟨y, hy, hy2⟩ := per_bound (f := fun x => t (u x) (v x)) hpt hl0 (Nat.le_refl _) hx
        have := hno y hy
        rw [hy2] at this
        cases this
end
end K67
set_option Elab.async false
set_option linter.all false
set_option maxRecDepth 100000
set_option maxHeartbeats 8000000
namespace K67
open PySem L2 Evl LamX
/-- a def whose code object stands at c -/
structure FunC (K : PySem.W.Frag) (x qual : Str) (st : Stmt) (f : Addr) (fd : FuncData) (c : Addr) : Prop where
  ex : ∃ (oc : Value) (od : Option Addr) (kV doc pm : Value) (an : Option Addr) (ct : Value) (osl : Array (Option Value)),
    fd = PySem.W.fnOf x qual (defArgs st) (defBody st) (defScope st) .none kV doc pm an (.ref c) ct ∧ K.lookup f = some ⟨oc, od, .func fd, osl⟩ ∧ PySem.W.codeIn K (.ref c) qual = true
  kp : PySem.W.keepIn K (.ref f) = true
theorem FunC.toFun {K : PySem.W.Frag} {x qual : Str} {st : Stmt} {f : Addr} {fd : FuncData} {c : Addr} (F : FunC K x qual st f fd c) : Fun K x qual st f fd := by
  obtain ⟨⟨oc, od, kV, doc, pm, an, ct, osl, h⟩, k⟩ := F
  exact ⟨⟨oc, od, kV, doc, pm, an, .ref c, ct, osl, h⟩, k⟩
theorem FunC.ok {P : Program} {w : World} {K : PySem.W.Frag} {mg : Str → Option Value} {base : Heap} {x qual : Str} {st : Stmt} {f : Addr} {fd : FuncData} {c : Addr} {N ps : List Str} {k : Nat} {sp : Sp} (F : FunC K x qual st f fd c) (S : FnScope N ps (defScope st)) (len : ∀ vs H Q E, sp vs H Q E → vs.length = ps.length)
    (hbody : ∀ (A : Around) (outer : List Env) (s : Shared) (H : Hp) (vs : List V) (Q : VK) (E : XK), Room k (A.deeper (PyProof.Rows.envOfC qual (defScope st) s.heap.objs.size f (.ref c))) → sp vs H Q E →
      ∃ t, PSs (cxOf CX0 P w K mg base N qual (defScope st) f (.ref c) A outer s H E).nox (defBody st) t ∧ t { nx := fun _ H' => Q .non H', rt := Q } (start N vs) H) : FnOk P w K mg base CX0 (k + 1) f fd ps sp := by
  obtain ⟨oc, od, kV, doc, pm, an, ct, osl, rfl, lk, hcd⟩ := F.ex
  refine fn_of lk hcd S len fun A outer s H vs Q E hr hsp => ?_
  obtain ⟨t, h, q⟩ := hbody A outer s H vs Q E hr hsp
  exact ⟨t, h.nox, q⟩
/-- the table of the code object at c -/
structure Tb (T : List (Addr × Str)) (base : Heap) (mg : Str → Option Value) (c P : Addr) (x : Str) : Prop where
  tb : TabB base mg c P
  mem : (P, x ++ ".<locals>." ++ "<lambda>") ∈ T
  uni : ∀ p ∈ T, p.1 = P → p.2 = x ++ ".<locals>." ++ "<lambda>"
theorem Tw.keep {C : Addr} {H H' : Hp} {a b : Addr} {u v : Nat → Bool} (h : Tw C H a b u v) (e : ExtN H H') : Tw C H' a b u v := ⟨h.1.keep e, h.2.1.keep e, h.2.2⟩
section
variable {P : Program} {w : World} {K : PySem.W.Frag} {mg : Str → Option Value} {base : Heap} {C : Addr} {T : List (Addr × Str)}
def spTw (T : List (Addr × Str)) (C : Addr) (t : Bool → Bool → Bool) : Sp := fun vs H Q _ => ∃ (a b : Addr) (u v : Nat → Bool), vs = [.ref a, .ref b] ∧ Tw C H a b u v ∧ Tabs T H ∧
  ∀ (r : Addr) (H' : Hp), ExtN H H' → Tabs T H' → Circ C H' r (fun x => t (u x) (v x)) → Q (.ref r) H'
theorem ok_both {f c Pt : Addr} {fd : FuncData} (F : FunC K "both" "both" (topS 30) f fd c) (TB : Tb T base mg c Pt "both") (G : Fn P w K mg base 8 "matched" ["one", "other", "told"] (spMt P w K mg base C)) : FnOk P w K mg base CX0 9 f fd ["one", "other"] (spTw T C fun a b => a && b) := by
  have sc : FnScope ["one", "other"] ["one", "other"] (defScope (topS 30)) := ⟨rfl, rfl, rfl, by decide +kernel, rfl, by decide +kernel, by decide +kernel⟩
  refine F.ok sc (fun vs H Q E h => ?_) (fun A outer sh H vs Q E hr h => ?_)
  · obtain ⟨a, b, u, v, rfl, _⟩ := h
    rfl
  · obtain ⟨a, b, u, v, rfl, hT, hTb, q⟩ := h
    refine ⟨_, pss_one (ps_ret (pe_fn G hr (by rfl) (pa_cons (pv 0) (pa_cons (pv 1) (pa_cons (K67R.lam_new TB.tb rfl TB.mem TB.uni rfl (by decide +kernel)) pa_nil))))), ?_⟩
    refine ⟨_, rfl, _, rfl, hTb, fun g c' H1 e1 t1 ng hg hc => ?_⟩
    refine ⟨a, b, g, u, v, fun x y => x && y, rfl, hT.keep e1, ⟨c', _, _, _, _, hg, hc, ⟨rfl, rfl, rfl, by decide +kernel, rfl, by decide +kernel, by decide +kernel⟩, fun _ _ _ _ => rfl, fun A outer s H CX E => ⟨_, pe_and (pv 0) (pe_one (pv 1)), fun x y H Q z => ?_⟩⟩, fun r H2 e2 hr2 => q r H2 (e1.trans (.of e2)) (t1.ext e2) hr2⟩
    cases x with
    | false => exact ⟨_, rfl, _, rfl, itF rfl z⟩
    | true => exact ⟨_, rfl, _, rfl, itT rfl ⟨_, rfl, z⟩⟩
theorem ok_either {f c Pt : Addr} {fd : FuncData} (F : FunC K "either" "either" (topS 31) f fd c) (TB : Tb T base mg c Pt "either") (G : Fn P w K mg base 8 "matched" ["one", "other", "told"] (spMt P w K mg base C)) : FnOk P w K mg base CX0 9 f fd ["one", "other"] (spTw T C fun a b => a || b) := by
  have sc : FnScope ["one", "other"] ["one", "other"] (defScope (topS 31)) := ⟨rfl, rfl, rfl, by decide +kernel, rfl, by decide +kernel, by decide +kernel⟩
  refine F.ok sc (fun vs H Q E h => ?_) (fun A outer sh H vs Q E hr h => ?_)
  · obtain ⟨a, b, u, v, rfl, _⟩ := h
    rfl
  · obtain ⟨a, b, u, v, rfl, hT, hTb, q⟩ := h
    refine ⟨_, pss_one (ps_ret (pe_fn G hr (by rfl) (pa_cons (pv 0) (pa_cons (pv 1) (pa_cons (K67R.lam_new TB.tb rfl TB.mem TB.uni rfl (by decide +kernel)) pa_nil))))), ?_⟩
    refine ⟨_, rfl, _, rfl, hTb, fun g c' H1 e1 t1 ng hg hc => ?_⟩
    refine ⟨a, b, g, u, v, fun x y => x || y, rfl, hT.keep e1, ⟨c', _, _, _, _, hg, hc, ⟨rfl, rfl, rfl, by decide +kernel, rfl, by decide +kernel, by decide +kernel⟩, fun _ _ _ _ => rfl, fun A outer s H CX E => ⟨_, pe_or (pv 0) (pe_one (pv 1)), fun x y H Q z => ?_⟩⟩, fun r H2 e2 hr2 => q r H2 (e1.trans (.of e2)) (t1.ext e2) hr2⟩
    cases x with
    | false => exact ⟨_, rfl, _, rfl, itF rfl ⟨_, rfl, z⟩⟩
    | true => exact ⟨_, rfl, _, rfl, itT rfl z⟩
theorem ok_without {f c Pt : Addr} {fd : FuncData} (F : FunC K "without" "without" (topS 32) f fd c) (TB : Tb T base mg c Pt "without") (G : Fn P w K mg base 8 "matched" ["one", "other", "told"] (spMt P w K mg base C)) : FnOk P w K mg base CX0 9 f fd ["one", "other"] (spTw T C fun a b => a && !b) := by
  have sc : FnScope ["one", "other"] ["one", "other"] (defScope (topS 32)) := ⟨rfl, rfl, rfl, by decide +kernel, rfl, by decide +kernel, by decide +kernel⟩
  refine F.ok sc (fun vs H Q E h => ?_) (fun A outer sh H vs Q E hr h => ?_)
  · obtain ⟨a, b, u, v, rfl, _⟩ := h
    rfl
  · obtain ⟨a, b, u, v, rfl, hT, hTb, q⟩ := h
    refine ⟨_, pss_one (ps_ret (pe_fn G hr (by rfl) (pa_cons (pv 0) (pa_cons (pv 1) (pa_cons (K67R.lam_new TB.tb rfl TB.mem TB.uni rfl (by decide +kernel)) pa_nil))))), ?_⟩
    refine ⟨_, rfl, _, rfl, hTb, fun g c' H1 e1 t1 ng hg hc => ?_⟩
    refine ⟨a, b, g, u, v, fun x y => x && !y, rfl, hT.keep e1, ⟨c', _, _, _, _, hg, hc, ⟨rfl, rfl, rfl, by decide +kernel, rfl, by decide +kernel, by decide +kernel⟩, fun _ _ _ _ => rfl, fun A outer s H CX E => ⟨_, pe_and (pv 0) (pe_one (pe_not (pv 1))), fun x y H Q z => ?_⟩⟩, fun r H2 e2 hr2 => q r H2 (e1.trans (.of e2)) (t1.ext e2) hr2⟩
    cases x with
    | false => exact ⟨_, rfl, _, rfl, itF rfl z⟩
    | true => exact ⟨_, rfl, _, rfl, itT rfl ⟨_, rfl, _, rfl, z⟩⟩
/-- the first number in one of the two only -/
def spAp (T : List (Addr × Str)) (C : Addr) : Sp := fun vs H Q _ => ∃ (a b : Addr) (u v : Nat → Bool), vs = [.ref a, .ref b] ∧ Tw C H a b u v ∧ Tabs T H ∧
  ∀ (r : V) (H' : Hp), ExtN H H' → Tabs T H' → First (fun x => u x != v x) r → Q r H'
theorem ok_firstApart {f c Pt : Addr} {fd : FuncData} (F : FunC K "first_apart" "first_apart" (topS 36) f fd c) (TB : Tb T base mg c Pt "first_apart") (G : Fn P w K mg base 4 "first_where" ["one", "other", "told"] (spFw P w K mg base C)) : FnOk P w K mg base CX0 5 f fd ["one", "other"] (spAp T C) := by
  have sc : FnScope ["one", "other"] ["one", "other"] (defScope (topS 36)) := ⟨rfl, rfl, rfl, by decide +kernel, rfl, by decide +kernel, by decide +kernel⟩
  refine F.ok sc (fun vs H Q E h => ?_) (fun A outer sh H vs Q E hr h => ?_)
  · obtain ⟨a, b, u, v, rfl, _⟩ := h
    rfl
  · obtain ⟨a, b, u, v, rfl, hT, hTb, q⟩ := h
    refine ⟨_, pss_one (ps_ret (pe_fn G hr (by rfl) (pa_cons (pv 0) (pa_cons (pv 1) (pa_cons (K67R.lam_new TB.tb rfl TB.mem TB.uni rfl (by decide +kernel)) pa_nil))))), ?_⟩
    refine ⟨_, rfl, _, rfl, hTb, fun g c' H1 e1 t1 ng hg hc => ?_⟩
    refine ⟨a, b, g, u, v, fun x y => x != y, rfl, hT.keep e1, ⟨c', _, _, _, _, hg, hc, ⟨rfl, rfl, rfl, by decide +kernel, rfl, by decide +kernel, by decide +kernel⟩, fun _ _ _ _ => rfl, fun A outer s H CX E => ⟨_, pe_cmpR op_ne (pv 0) (pv 1) (nomark _), fun x y H Q z => ?_⟩⟩, fun r H2 e2 hr2 => q r H2 (e1.trans (.of e2)) (t1.ext e2) hr2⟩
    refine ⟨_, rfl, _, rfl, rfl, ?_⟩
    cases x <;> cases y <;> exact z
def spWi (T : List (Addr × Str)) (C : Addr) : Sp := fun vs H Q _ => ∃ (a b : Addr) (u v : Nat → Bool), vs = [.ref a, .ref b] ∧ Tw C H a b u v ∧ Tabs T H ∧
  ∀ (r : Bool) (H' : Hp), ExtN H H' → Tabs T H' → (r = true ↔ ∀ x, (u x && !v x) = false) → Q (.bl r) H'
theorem first_non {f : Nat → Bool} {r : V} (h : First f r) : decide (r = .non) = true ↔ ∀ x, f x = false := by
  rcases h with ⟨rfl, h⟩ | ⟨k, rfl, _, h, _⟩
  · exact ⟨fun _ => h, fun _ => rfl⟩
  · refine ⟨fun z => (by cases of_decide_eq_true z), fun z => ?_⟩
    rw [z k] at h
    cases h
theorem ok_within {f c Pt : Addr} {fd : FuncData} (F : FunC K "is_within" "is_within" (topS 35) f fd c) (TB : Tb T base mg c Pt "is_within") (G : Fn P w K mg base 4 "first_where" ["one", "other", "told"] (spFw P w K mg base C)) : FnOk P w K mg base CX0 5 f fd ["one", "other"] (spWi T C) := by
  have sc : FnScope ["one", "other"] ["one", "other"] (defScope (topS 35)) := ⟨rfl, rfl, rfl, by decide +kernel, rfl, by decide +kernel, by decide +kernel⟩
  refine F.ok sc (fun vs H Q E h => ?_) (fun A outer sh H vs Q E hr h => ?_)
  · obtain ⟨a, b, u, v, rfl, _⟩ := h
    rfl
  · obtain ⟨a, b, u, v, rfl, hT, hTb, q⟩ := h
    refine ⟨_, pss_one (ps_ret (pe_cmpR op_isN (pe_fn G hr (by rfl) (pa_cons (pv 0) (pa_cons (pv 1) (pa_cons (K67R.lam_new TB.tb rfl TB.mem TB.uni rfl (by decide +kernel)) pa_nil)))) pe_non (nomark _))), ?_⟩
    refine ⟨_, rfl, _, rfl, hTb, fun g c' H1 e1 t1 ng hg hc => ?_⟩
    refine ⟨a, b, g, u, v, fun x y => x && !y, rfl, hT.keep e1, ⟨c', _, _, _, _, hg, hc, ⟨rfl, rfl, rfl, by decide +kernel, rfl, by decide +kernel, by decide +kernel⟩, fun _ _ _ _ => rfl, fun A outer s H CX E => ⟨_, pe_and (pv 0) (pe_one (pe_not (pv 1))), fun x y H Q z => ?_⟩⟩, fun r H2 e2 hr2 => ⟨rfl, q _ H2 (e1.trans (.of e2)) (t1.ext e2) ?_⟩⟩
    · cases x with
      | false => exact ⟨_, rfl, _, rfl, itF rfl z⟩
      | true => exact ⟨_, rfl, _, rfl, itT rfl ⟨_, rfl, _, rfl, z⟩⟩
    · exact first_non hr2
end
end K67
set_option Elab.async false
set_option linter.all false
set_option maxRecDepth 100000
set_option maxHeartbeats 8000000
namespace K67
open PySem L2 Evl
/-! ### the keg -/
def KegAt (H : Hp) (k : Addr) : Prop := ∃ a b c : Int, H k = some (.lst [.int a, .int b, .int c])
/-- all but the object at k stays -/
def ExK (k : Addr) (H H' : Hp) : Prop := ∀ c o, H c = some o → c ≠ k → H' c = some o
theorem ExK.refl (k : Addr) (H : Hp) : ExK k H H := fun _ _ h _ => h
theorem ExK.trans {k : Addr} {H H1 H2 : Hp} (a : ExK k H H1) (b : ExK k H1 H2) : ExK k H H2 := fun c o h n => b c o (a c o h n) n
theorem ExK.of {k : Addr} {H H1 : Hp} (e : Ex H H1) : ExK k H H1 := fun c o h _ => e c o h
theorem ExK.set {k : Addr} {H : Hp} {o : HO} : ExK k H (upd H k o) := fun c u h n => by
  rw [upd_ne n]
  exact h
section
variable {P : Program} {w : World} {K : PySem.W.Frag} {mg : Str → Option Value} {base : Heap} {C : Addr}
abbrev sTap : Stmt := topS 39
abbrev nTap : List Str := ["_law_keg_here", "_law_upto", "_law_figure", "_law_blend"]
theorem scTap : FnScope nTap ["_law_keg_here", "_law_upto"] (defScope sTap) := ⟨rfl, rfl, rfl, by decide +kernel, rfl, by decide +kernel, by decide +kernel⟩
def spTap : Sp := fun vs H Q _ => ∃ (k : Addr) (m : Nat), vs = [.ref k, .int (m : Int)] ∧ KegAt H k ∧ 0 < m ∧ m ≤ 1000 ∧ ∀ (v : Nat) (H' : Hp), v < m → ExK k H H' → KegAt H' k → Q (.int (v : Int)) H'
theorem ok_tap {f : Addr} {fd : FuncData} (F : Fun K "_law_tap" "_law_tap" sTap f fd) (B : Bt mg) : FnOk P w K mg base CX0 1 f fd ["_law_keg_here", "_law_upto"] spTap := by
  refine F.ok scTap (fun vs H Q E h => ?_) (fun cdv A outer sh H vs Q E hr h => ?_)
  · obtain ⟨k, m, rfl, _⟩ := h
    rfl
  · obtain ⟨k, m, rfl, ⟨a, b, c, hk⟩, m0, m1, q⟩ := h
    have num : ∀ i : Int, ∃ v : Nat, v < m ∧ i % (m : Int) = (v : Int) := fun i => by
      have h1 := Int.emod_nonneg i (show (m : Int) ≠ 0 by omega)
      have h2 := Int.emod_lt_of_pos i (show (0 : Int) < m by omega)
      exact ⟨(i % (m : Int)).toNat, by omega, by omega⟩
    refine ⟨_, pss_cons (ps_if (pt_cmpR op_gt (pe_ix ix_list (pv 0) pe_int (fun _ _ => rfl)) pe_int (nomark _))
        (pss_cons (ps_asg (pe_callB call_divmod (by rfl) B.divmod (by decide +kernel) (pa_cons (pe_ix ix_list (pv 0) pe_int (fun _ _ => rfl)) (pa_cons (pv 1) pa_nil))) (pg_tup rfl (pgs_cons (pg_sub (pv 0) pe_int set_list) (pgs_cons (pg_name (i := 2) scTap.nd rfl (.inl rfl)) pgs_nil))))
          (pss_one (ps_ret (pv 2)))) pss_nil)
      (pss_cons (ps_asg (pe_op op_add (pe_ix ix_list (pv 0) pe_int (fun _ _ => rfl)) pe_int) (pg_sub (pv 0) pe_int set_list))
      (pss_cons (ps_set (i := 3) scTap.nd rfl (.inl rfl) (pe_op op_mul (pe_ix ix_list (pv 0) pe_int (fun _ _ => rfl)) (pe_op op_add (pe_op op_mod (pe_callTy call_int1 (by rfl) B.int (by decide +kernel) (pa_cons (pe_op op_fdiv (pe_ix ix_list (pv 0) pe_int (fun _ _ => rfl)) pe_int) pa_nil)) pe_int) pe_int)))
      (pss_cons (ps_asg (pe_op op_mod (pe_callTy call_int1 (by rfl) B.int (by decide +kernel) (pa_cons (pe_op op_add (pe_op op_add (pv 3) (pe_op op_mul pe_int (pe_ix ix_list (pv 0) pe_int (fun _ _ => rfl)))) pe_int) pa_nil)) pe_int) (pg_sub (pv 0) pe_int set_list))
      (pss_one (ps_ret (pe_op op_mod (pe_callTy call_int1 (by rfl) B.int (by decide +kernel) (pa_cons (pe_op op_fdiv (pe_ix ix_list (pv 0) pe_int (fun _ _ => rfl)) pe_int) pa_nil)) (pv 1))))))), ?_⟩
    refine ⟨_, rfl, k, _, 0, _, rfl, rfl, sq_of hk, rfl, _, _, rfl, rfl, _, rfl, itB (fun hc => ?_) (fun hc => ?_)⟩
    · refine ⟨_, rfl, k, _, 0, _, rfl, rfl, sq_of hk, rfl, _, rfl, _, _, rfl, ⟨by omega, by omega⟩, fun p np => ?_⟩
      have nkp : k ≠ p := ne_of_none hk np
      refine ⟨p, _, rfl, st_of upd_same, rfl, _, _, rfl, _, rfl, k, _, 0, 0, rfl, rfl, (upd_ne nkp).trans hk, rfl, _, _, rfl, rfl, _, rfl, ?_⟩
      obtain ⟨v, hv, ev⟩ := num a
      rw [ev]
      exact q v _ hv (fun c' o h1 h2 => by rw [upd_ne h2, upd_ne (ne_of_none h1 np)]; exact h1) ⟨_, _, _, upd_same⟩
    · refine ⟨_, rfl, k, _, 2, _, rfl, rfl, sq_of hk, rfl, _, _, rfl, rfl, _, rfl, k, _, 2, 2, rfl, rfl, hk, rfl, ?_⟩
      have h1 : upd H k (.lst ([V.int a, V.int b, V.int c].set 2 (.int (c + 1)))) k = some (.lst [V.int a, V.int b, V.int (c + 1)]) := upd_same
      have e1 : ExK k H (upd H k (.lst ([V.int a, V.int b, V.int c].set 2 (.int (c + 1))))) := ExK.set
      generalize upd H k (.lst ([V.int a, V.int b, V.int c].set 2 (.int (c + 1)))) = H1 at h1 e1 ⊢
      have r0 := Int.emod_nonneg (b / 8) (show (43003 : Int) ≠ 0 by decide)
      have r1 := Int.emod_lt_of_pos (b / 8) (show (0 : Int) < 43003 by decide)
      refine ⟨_, rfl, k, _, 1, _, rfl, rfl, sq_of h1, rfl, _, rfl, k, _, 1, _, rfl, rfl, sq_of h1, rfl, _, _, rfl, rfl, ⟨by decide, by decide⟩, .inl ⟨_, rfl, _, _, rfl, rfl, (by show (0 : Int) < 43003; decide), _, _, rfl, rfl, _, _, rfl, rfl, .inr ⟨by omega, by omega⟩, ?_⟩⟩
      refine ⟨_, rfl, _, rfl, k, _, 2, _, rfl, rfl, sq_of h1, rfl, _, _, rfl, rfl, .inl ⟨by decide, by decide⟩, _, _, rfl, rfl, _, _, rfl, rfl, .inl ⟨_, rfl, _, _, rfl, rfl, (by show (0 : Int) < 2147482801; decide), _, rfl, k, _, 1, 1, rfl, rfl, h1, rfl, ?_⟩⟩
      refine ⟨_, rfl, k, _, 1, _, rfl, rfl, sq_of upd_same, rfl, _, _, rfl, rfl, ⟨by decide, by decide⟩, .inl ⟨_, rfl, _, rfl, _, _, rfl, rfl, (by show (0 : Int) < m; omega), ?_⟩⟩
      obtain ⟨v, hv, ev⟩ := num ((b * (b / 8 % 43003 + 89) + 10103 * (c + 1) + 53) % 2147482801 / 8192)
      show Q (.int (((b * (b / 8 % 43003 + 89) + 10103 * (c + 1) + 53) % 2147482801 / 8192) % (m : Int))) _
      rw [ev]
      exact q v _ hv (e1.trans ExK.set) ⟨_, _, _, upd_same⟩
end
end K67
set_option Elab.async false
set_option linter.all false
set_option maxRecDepth 100000
set_option maxHeartbeats 8000000
namespace K67
open PySem L2 Evl
/-! ### the drawn tuples -/
def DrAt (H : Hp) (t : Addr) (G : Frm) : Prop := ∃ l1 l2, H t = some (.tup [.ref l1, .int (G.start : Int), .int (G.base : Int), .ref l2]) ∧ H l1 = some (.lst (iv G.early)) ∧ H l2 = some (.lst (iv G.rests))
theorem DrAt.ex {H H' : Hp} {t : Addr} {G : Frm} (h : DrAt H t G) (e : Ex H H') : DrAt H' t G := by
  obtain ⟨l1, l2, h1, h2, h3⟩ := h
  exact ⟨l1, l2, e _ _ h1, e _ _ h2, e _ _ h3⟩
theorem DrAt.keep {H H' : Hp} {t : Addr} {G : Frm} (h : DrAt H t G) (e : LamX.ExtN H H') : DrAt H' t G := by
  obtain ⟨l1, l2, h1, h2, h3⟩ := h
  exact ⟨l1, l2, e _ _ h1 (fun _ z => by cases z), e _ _ h2 (fun _ z => by cases z), e _ _ h3 (fun _ z => by cases z)⟩
/-- .. and none of it at k -/
def DrOff (H : Hp) (t k : Addr) (G : Frm) : Prop := ∃ l1 l2, H t = some (.tup [.ref l1, .int (G.start : Int), .int (G.base : Int), .ref l2]) ∧ H l1 = some (.lst (iv G.early)) ∧ H l2 = some (.lst (iv G.rests)) ∧ t ≠ k ∧ l1 ≠ k ∧ l2 ≠ k
theorem DrOff.ex {H H' : Hp} {t k : Addr} {G : Frm} (h : DrOff H t k G) (e : ExK k H H') : DrOff H' t k G := by
  obtain ⟨l1, l2, h1, h2, h3, n1, n2, n3⟩ := h
  exact ⟨l1, l2, e _ _ h1 n1, e _ _ h2 n2, e _ _ h3 n3, n1, n2, n3⟩
theorem DrOff.at {H : Hp} {t k : Addr} {G : Frm} (h : DrOff H t k G) : DrAt H t G := by
  obtain ⟨l1, l2, h1, h2, h3, _⟩ := h
  exact ⟨l1, l2, h1, h2, h3⟩
structure GoodD (G : Frm) : Prop where
  e1 : G.early.Pairwise (· < ·)
  e2 : ∀ n ∈ G.early, n < G.start
  r1 : G.rests.Pairwise (· < ·)
  r2 : ∀ n ∈ G.rests, n < G.base
  b0 : 0 < G.base
  b1 : G.base ≤ 12
  s1 : G.start ≤ 6
/-- the numbers of a drawn tuple -/
def dr (G : Frm) : Nat → Bool := fun x => if x < G.start then decide (x ∈ G.early) else decide (x % G.base ∈ G.rests)
theorem nat_strict {l m : List Nat} (hl : l.Pairwise (· < ·)) (hm : m.Pairwise (· < ·)) (h : ∀ n, n ∈ l ↔ n ∈ m) : l = m := by
  have e : zs l = zs m := strict_eq (zs_strict hl) (zs_strict hm) fun z => by
    rw [mem_zs, mem_zs]
    exact ⟨fun ⟨n, a, b⟩ => ⟨n, (h n).mp a, b⟩, fun ⟨n, a, b⟩ => ⟨n, (h n).mpr a, b⟩⟩
  exact List.map_inj_right (fun a b z => by
    have z : (a : Int) = (b : Int) := z
    omega) |>.mp e
theorem GoodD.pre {G : Frm} (g : GoodD G) : Pre (dr G) G.early G.start G.base G.rests where
  pos := g.b0
  per := fun x hx => by
    unfold dr
    rw [if_neg (by omega), if_neg (by omega), Nat.add_mod_right]
  earl := nat_strict g.e1 (range_strict _ _) fun n => by
    rw [List.mem_filter, List.mem_range]
    constructor
    · intro h
      refine ⟨g.e2 n h, ?_⟩
      unfold dr
      rw [if_pos (g.e2 n h)]
      exact decide_eq_true h
    · rintro ⟨h1, h2⟩
      unfold dr at h2
      rw [if_pos h1] at h2
      exact of_decide_eq_true h2
  rst := nat_strict g.r1 (range_strict _ _) fun n => by
    have hb := g.b0
    have key : n < G.base → dr G (n + G.base * G.start) = decide (n ∈ G.rests) := fun hn => by
      have : G.start ≤ G.base * G.start := Nat.le_mul_of_pos_left _ hb
      unfold dr
      rw [if_neg (by omega), Nat.add_mul_mod_self_left, Nat.mod_eq_of_lt hn]
    rw [List.mem_filter, List.mem_range]
    constructor
    · intro h
      refine ⟨g.r2 n h, ?_⟩
      rw [key (g.r2 n h)]
      exact decide_eq_true h
    · rintro ⟨h1, h2⟩
      rw [key h1] at h2
      exact of_decide_eq_true h2
section
variable {P : Program} {w : World} {K : PySem.W.Frag} {mg : Str → Option Value} {base : Heap} {C : Addr}
/-! ### _law_any -/
def spAny : Sp := fun vs H Q _ => ∃ (k l : Addr) (ns : List Nat), vs = [.ref k, .ref l] ∧ KegAt H k ∧ H l = some (.lst (iv ns)) ∧ l ≠ k ∧ 0 < ns.length ∧ ns.length ≤ 1000 ∧ ∀ (n : Nat) (H' : Hp), n ∈ ns → ExK k H H' → KegAt H' k → Q (.int (n : Int)) H'
theorem ok_any {f : Addr} {fd : FuncData} (F : Fun K "_law_any" "_law_any" (topS 40) f fd) (B : Bt mg) (G : Fn P w K mg base 1 "_law_tap" ["_law_keg_here", "_law_upto"] spTap) : FnOk P w K mg base CX0 2 f fd ["_law_keg_here", "_law_things"] spAny := by
  refine F.ok (N := ["_law_keg_here", "_law_things"]) ⟨rfl, rfl, rfl, by decide +kernel, rfl, by decide +kernel, by decide +kernel⟩ (fun vs H Q E h => ?_) (fun cdv A outer sh H vs Q E hr h => ?_)
  · obtain ⟨k, l, ns, rfl, _⟩ := h
    rfl
  · obtain ⟨k, l, ns, rfl, hk, hl, nk, h0, h1, q⟩ := h
    refine ⟨_, pss_one (ps_ret (pe_ix (r := rIxL K) ix_list (pv 1) (pe_fn G hr (by rfl) (pa_cons (pv 0) (pa_cons (pe_callB call_len_seq (by rfl) B.len PySem.boot_len (pa_cons (pv 1) pa_nil)) pa_nil))) (fun _ _ => rfl))), ?_⟩
    refine ⟨_, rfl, _, rfl, _, rfl, l, _, rfl, .inl (sq_of hl), k, ns.length, ?_, hk, h0, h1, fun v H1 hv e1 hk1 => ?_⟩
    · rw [iv_len]
      rfl
    · exact ⟨l, _, _, _, rfl, rfl, sq_of (e1 _ _ hl nk), atI_nat (iv_at (List.getElem?_eq_getElem hv)), q _ H1 (List.getElem_mem hv) e1 hk1⟩
/-! ### _law_set -/
abbrev nSet : List Str := ["_law_keg_here", "_law_most", "_law_begin", "_law_n", "_law_lows", "_law_lot", "_law_x", "_law_r"]
theorem scSet : FnScope nSet ["_law_keg_here", "_law_most"] (defScope (topS 41)) := ⟨rfl, rfl, rfl, by decide +kernel, rfl, by decide +kernel, by decide +kernel⟩
def spSet : Sp := fun vs H Q _ => ∃ (k : Addr) (m : Nat), vs = [.ref k, .int (m : Int)] ∧ KegAt H k ∧ 0 < m ∧ m ≤ 6 ∧ ∀ (t : Addr) (G : Frm) (H' : Hp), ExK k H H' → KegAt H' k → DrOff H' t k G → GoodD G → G.base ≤ m → Q (.ref t) H'
/-- [x for x in range(n) if _law_tap(keg, m) == 0] -/
theorem lc_pick {tt : TT} {te : TE} {j n : Nat} {k : Addr} {σ : L2.St} {H1 : Hp} {D : Addr} {Qd : Hp → Prop} (hk : KegAt H1 k) (nD : H1 D = none) (hn : n ≤ 1000)
    (ht : ∀ (i : Nat) (H : Hp), KegAt H k → ∀ Q : Bool → Hp → Prop, (∀ b H', ExK k H H' → KegAt H' k → Q b H') → tt ((wipe σ [j]).set j (some (.int (i : Int)))) H Q)
    (he : ∀ (i : Nat) (H : Hp) (Q : VK), Q (.int (i : Int)) H → te ((wipe σ [j]).set j (some (.int (i : Int)))) H Q)
    (hd : ∀ (H : Hp) (ms : List Nat), ExK k H1 H → KegAt H k → D ≠ k → H D = some (.lst (iv ms)) → ms.Pairwise (· < ·) → (∀ m ∈ ms, m < n) → Qd H) :
    ∃ W : Nat → Nat → Hp → Prop, (∃ m, W 0 m (upd H1 D (.lst []))) ∧ ∀ i m H, W i m H →
      ((Itr 0 n).stop i H ∧ Qd H) ∨ ((Itr 0 n).go i H ∧ ∃ Nx : Hp → Prop, (∀ H', Nx H' → ∃ m', m' < m ∧ W (i + 1) m' H') ∧ ∀ x H', (Itr 0 n).yld i H x H' → gName j x (wipe σ [j]) H' fun σ2 H2 => wipe σ2 [j] = wipe σ [j] ∧ tt σ2 H2 fun b H3 =>
        if b = true then te σ2 H3 fun y H4 => ∃ acc, H4 D = some (.lst acc) ∧ acc.length < sizeLine ∧ Nx (upd H4 D (.lst (acc ++ [y]))) else Nx H3) := by
  have nDk : D ≠ k := by
    obtain ⟨a, b, c, h⟩ := hk
    exact fun z => by
      rw [z, h] at nD
      cases nD
  have hkD : ∀ {H : Hp} {o : HO}, KegAt H k → KegAt (upd H D o) k := fun {H o} ⟨a, b, c, h⟩ => ⟨a, b, c, by rw [upd_ne nDk.symm]; exact h⟩
  have mv : ∀ {H : Hp} {o : HO}, ExK k H1 H → ExK k H1 (upd H D o) := fun {H o} e c u h n => by
    rw [upd_ne (ne_of_none h nD)]
    exact e c u h n
  refine lc_range (fun i H => ∃ ms : List Nat, ExK k H1 H ∧ KegAt H k ∧ H D = some (.lst (iv ms)) ∧ ms.Pairwise (· < ·) ∧ (∀ m ∈ ms, m < i) ∧ ms.length ≤ i) ⟨[], mv (ExK.refl _ _), hkD hk, upd_same, .nil, fun m h => (by cases h), Nat.zero_le _⟩ (fun i H hi ⟨ms, e, hk', hD, hs, hm, hl⟩ => ?_) (fun H ⟨ms, e, hk', hD, hs, hm, hl⟩ => hd H ms e hk' nDk hD hs hm)
  rw [Int.zero_add]
  refine ⟨wipe1, ht i H hk' _ fun b H2 e2 hk2 => ?_⟩
  cases b with
  | true =>
    rw [if_pos rfl]
    refine he i H2 _ ⟨iv ms, e2 _ _ hD nDk, ?_, ms ++ [i], mv (e.trans e2), hkD hk2, ?_, ?_, fun m h => ?_, ?_⟩
    · rw [iv_len]
      exact small1000 (by omega)
    · rw [upd_same, iv_app]
      rfl
    · rw [List.pairwise_append]
      refine ⟨hs, List.pairwise_singleton _ _, fun a ha b hb => ?_⟩
      have : b = i := by simpa using hb
      rw [this]
      exact hm a ha
    · rcases List.mem_append.mp h with z | z
      · have := hm m z
        omega
      · have : m = i := by simpa using z
        omega
    · rw [List.length_append]
      simp
      omega
  | false =>
    rw [if_neg (by decide)]
    exact ⟨ms, e.trans e2, hk2, e2 _ _ hD nDk, hs, fun m h => by have := hm m h; omega, by omega⟩
theorem ok_set {f : Addr} {fd : FuncData} (F : Fun K "_law_set" "_law_set" (topS 41) f fd) (B : Bt mg) (GA : Fn P w K mg base 2 "_law_any" ["_law_keg_here", "_law_things"] spAny) (G : Fn P w K mg base 1 "_law_tap" ["_law_keg_here", "_law_upto"] spTap) : FnOk P w K mg base CX0 3 f fd ["_law_keg_here", "_law_most"] spSet := by
  refine F.ok scSet (fun vs H Q E h => ?_) (fun cdv A outer sh H vs Q E hr h => ?_)
  · obtain ⟨k, m, rfl, _⟩ := h
    rfl
  · obtain ⟨k, m, rfl, hk, m0, m1, q⟩ := h
    have hr1 : Room 1 (cxOf CX0 P w K mg base nSet "_law_set" (defScope (topS 41)) f cdv A outer sh H E).nox.A := hr.mono (by decide)
    refine ⟨_, pss_cons (ps_par (i := 2) (j := 3) (by rfl) scSet.nd rfl rfl (by decide) rfl rfl (pa_cons (pe_fn GA hr (by rfl) (pa_cons (pv 0) (pa_cons (pe_lst (pa_cons pe_int (pa_cons pe_int (pa_cons pe_int (pa_cons pe_int (pa_cons pe_int pa_nil)))))) pa_nil))) (pa_cons (pe_op op_add pe_int (pe_fn G hr1 (by rfl) (pa_cons (pv 0) (pa_cons (pv 1) pa_nil)))) pa_nil)) (by rfl))
      (pss_cons (ps_setLc (i := 4) (own := [("_law_x", 6)]) (g := gName 6) (te := tVar 6) rfl scSet.nd rfl rfl (sw_true rfl rfl rfl (by decide +kernel)) (pi_range1 (by rfl) B.range (pa_cons (pv 2) pa_nil)) (blkOk_by (N := nSet) (sc := defScope (topS 41)) (by decide +kernel)) (fun _ _ _ _ _ => pg_name (i := 6) scSet.nd rfl (.inl rfl))
          (fun _ _ _ _ _ => pts_one (pt_cmpR op_eq (pe_fn G (by exact hr1) (by rfl) (pa_cons (pv 0) (pa_cons pe_int pa_nil))) pe_int (nomark _))) (fun _ _ _ _ _ => pv 6))
      (pss_cons (ps_setLc (i := 5) (own := [("_law_r", 7)]) (g := gName 7) (te := tVar 7) rfl scSet.nd rfl rfl (sw_true rfl rfl rfl (by decide +kernel)) (pi_range1 (by rfl) B.range (pa_cons (pv 3) pa_nil)) (blkOk_by (N := nSet) (sc := defScope (topS 41)) (by decide +kernel)) (fun _ _ _ _ _ => pg_name (i := 7) scSet.nd rfl (.inl rfl))
          (fun _ _ _ _ _ => pts_one (pt_cmpR op_eq (pe_fn G (by exact hr1) (by rfl) (pa_cons (pv 0) (pa_cons pe_int pa_nil))) pe_int (nomark _))) (fun _ _ _ _ _ => pv 7))
      (pss_one (ps_ret (pe_tup (pa_cons (pv 4) (pa_cons (pv 2) (pa_cons (pv 3) (pa_cons (pv 5) pa_nil)))))))) ), ?_⟩
    refine ⟨_, rfl, (by show 5 ≤ sizeLine; decide), fun l nl => ?_⟩
    have hkl : ∀ {H : Hp} {a : Addr} {o : HO}, KegAt H k → H a = none → KegAt (upd H a o) k ∧ a ≠ k := fun {H a o} ⟨x, y, z, h⟩ n => ⟨⟨x, y, z, by rw [upd_ne (ne_of_none h n)]; exact h⟩, (ne_of_none h n).symm⟩
    obtain ⟨hk1, nlk⟩ := hkl (o := .lst (iv [0, 0, 1, 3, 6])) hk nl
    refine ⟨k, l, [0, 0, 1, 3, 6], rfl, hk1, upd_same, nlk, by decide, by decide, fun s H1 hs e1 hk2 => ?_⟩
    have hs6 : s ≤ 6 := by
      simp only [List.mem_cons, List.not_mem_nil, or_false] at hs
      omega
    have e01 : ExK k H H1 := (ExK.of (Ex.new nl)).trans e1
    refine ⟨_, rfl, _, rfl, k, m, rfl, hk2, m0, by omega, fun v H2 hv e2 hk3 => ⟨_, _, rfl, rfl, _, _, rfl, ?_⟩⟩
    have e02 := e01.trans e2
    have tap : ∀ (mm : Nat), 0 < mm → mm ≤ 1000 → ∀ (σ : L2.St) (H : Hp), σ[0]? = some (some (V.ref k)) → KegAt H k → ∀ Q : Bool → Hp → Prop, (∀ b H', ExK k H H' → KegAt H' k → Q b H') →
        tTest (tOp rEq (tCall spTap [] E0 (tCons (tVar 0) (tCons (tC (.int (mm : Int))) tNil))) (tC (.int 0))) σ H Q := fun mm a1 a2 σ H h0 hk Q z =>
      ⟨_, h0, k, mm, rfl, hk, a1, a2, fun v H' _ e hk' => ⟨rfl, _, rfl, z _ _ e hk'⟩⟩
    refine ⟨_, rfl, (s : Int), rfl, by omega, by omega, fun D nD => ?_⟩
    rw [Int.toNat_natCast]
    refine lc_pick hk3 nD (by omega) (fun i H hk' Q' z => tap 2 (by decide) (by decide) _ H rfl hk' Q' z) (fun i H Q' z => ⟨_, rfl, z⟩) (fun H3 ms e3 hk4 nDk hD hs1 hs2 => ?_)
    have ev : (1 : Int) + (v : Int) = ((1 + v : Nat) : Int) := by omega
    refine ⟨_, rfl, (1 : Int) + (v : Int), rfl, by omega, by omega, fun D2 nD2 => ?_⟩
    rw [ev, Int.toNat_natCast]
    refine lc_pick hk4 nD2 (by omega) (fun i H hk' Q' z => tap 3 (by decide) (by decide) _ H rfl hk' Q' z) (fun i H Q' z => ⟨_, rfl, z⟩) (fun H4 ms2 e4 hk5 nDk2 hD2 ht1 ht2 => ?_)
    refine ⟨_, rfl, _, rfl, _, rfl, _, rfl, (by show 4 ≤ sizeLine; decide), fun t nt => ?_⟩
    obtain ⟨hk6, ntk⟩ := hkl (o := .tup [.ref D, .int (s : Int), .int ((1 : Int) + (v : Int)), .ref D2]) hk5 nt
    have e5 := Ex.new (o := .tup [.ref D, .int (s : Int), .int ((1 : Int) + (v : Int)), .ref D2]) nt
    refine q t ⟨ms, s, 1 + v, ms2⟩ _ (((e02.trans e3).trans e4).trans (.of e5)) hk6 ⟨D, D2, ?_, e5 _ _ (e4 _ _ hD nDk), e5 _ _ hD2, ntk, nDk, nDk2⟩ ⟨hs1, hs2, ht1, ht2, by show 0 < 1 + v; omega, by show 1 + v ≤ 12; omega, hs6⟩ (by show 1 + v ≤ m; omega)
    rw [upd_same]
    show some (HO.tup [V.ref D, V.int (s : Int), V.int ((1 : Int) + (v : Int)), V.ref D2]) = some (HO.tup [V.ref D, V.int (s : Int), V.int ((1 + v : Nat) : Int), V.ref D2])
    rw [ev]
/-! ### _law_has, _law_flags -/
def spHas : Sp := fun vs H Q _ => ∃ (t : Addr) (G : Frm) (x : Nat), vs = [.ref t, .int (x : Int)] ∧ DrAt H t G ∧ 0 < G.base ∧ Q (.bl (dr G x)) H
theorem ok_has {f : Addr} {fd : FuncData} (F : Fun K "_law_has" "_law_has" (topS 42) f fd) (B : Bt mg) : FnOk P w K mg base CX0 1 f fd ["_law_c", "_law_x"] spHas := by
  refine F.ok (N := ["_law_c", "_law_x"]) ⟨rfl, rfl, rfl, by decide +kernel, rfl, by decide +kernel, by decide +kernel⟩ (fun vs H Q E h => ?_) (fun cdv A outer sh H vs Q E hr h => ?_)
  · obtain ⟨t, G, x, rfl, _⟩ := h
    rfl
  · obtain ⟨t, G, x, rfl, ⟨l1, l2, h1, h2, h3⟩, b0, q⟩ := h
    refine ⟨_, pss_one (ps_ret (pe_ifExp (pt_cmpR op_lt (pv 1) (pe_ix (r := rIxT K) ix_tup (pv 0) pe_int (fun _ _ => rfl)) (nomark _)) (pe_cmpR op_in_seq (pv 1) (pe_ix (r := rIxT K) ix_tup (pv 0) pe_int (fun _ _ => rfl)) rfl)
      (pe_cmpR op_in_seq (pe_op op_mod (pe_callTy call_int1 (by rfl) B.int (by decide +kernel) (pa_cons (pv 1) pa_nil)) (pe_ix (r := rIxT K) ix_tup (pv 0) pe_int (fun _ _ => rfl))) (pe_ix (r := rIxT K) ix_tup (pv 0) pe_int (fun _ _ => rfl)) rfl))), ?_⟩
    unfold dr at q
    refine ⟨_, rfl, _, rfl, t, _, 1, _, rfl, rfl, st_of h1, atI_nat (j := 1) rfl, _, _, rfl, rfl, _, rfl, itB (fun hc => ?_) (fun hc => ?_)⟩
    · have hc : x < G.start := by
        have : (x : Int) < (G.start : Int) := of_decide_eq_true hc
        omega
      rw [if_pos hc] at q
      refine ⟨_, rfl, _, rfl, t, _, 0, _, rfl, rfl, st_of h1, atI_nat (j := 0) rfl, l1, _, rfl, .inl (sq_of h2), rfl, iv_flat _, ?_⟩
      rw [← inV_iv] at q
      exact q
    · have hc : ¬ x < G.start := by
        have : ¬ (x : Int) < (G.start : Int) := of_decide_eq_false hc
        omega
      rw [if_neg hc] at q
      refine ⟨_, rfl, .inl ⟨_, rfl, _, rfl, t, _, 2, _, rfl, rfl, st_of h1, atI_nat (j := 2) rfl, _, _, rfl, rfl, (by show (0 : Int) < (G.base : Int); omega), _, rfl, t, _, 3, _, rfl, rfl, st_of h1, atI_nat (j := 3) rfl, l2, _, rfl, .inl (sq_of h3), rfl, iv_flat _, ?_⟩⟩
      rw [← inV_iv] at q
      exact q
def spFlags : Sp := fun vs H Q _ => ∃ (t : Addr) (G : Frm) (n : Nat), vs = [.ref t, .int (n : Int)] ∧ DrAt H t G ∧ 0 < G.base ∧ n ≤ 1000 ∧ ∀ (l : Addr) (H' : Hp), Ex H H' → H' l = some (.lst (bv (dr G) n)) → Q (.ref l) H'
theorem ok_flags {f : Addr} {fd : FuncData} (F : Fun K "_law_flags" "_law_flags" (topS 43) f fd) (B : Bt mg) (G : Fn P w K mg base 1 "_law_has" ["_law_c", "_law_x"] spHas) : FnOk P w K mg base CX0 2 f fd ["_law_c", "_law_wide"] spFlags := by
  have sc : FnScope ["_law_c", "_law_wide", "_law_x"] ["_law_c", "_law_wide"] (defScope (topS 43)) := ⟨rfl, rfl, rfl, by decide +kernel, rfl, by decide +kernel, by decide +kernel⟩
  refine F.ok sc (fun vs H Q E h => ?_) (fun cdv A outer sh H vs Q E hr h => ?_)
  · obtain ⟨t, G, n, rfl, _⟩ := h
    rfl
  · obtain ⟨t, D, n, rfl, hD, b0, hn, q⟩ := h
    refine ⟨_, pss_one (ps_ret (pe_lc (own := [("_law_x", 2)]) (g := gName 2) (tt := tYes) rfl sc.nd (pi_range1 (by rfl) B.range (pa_cons (pv 1) pa_nil)) (blkOk_by (N := ["_law_c", "_law_wide", "_law_x"]) (sc := defScope (topS 43)) (by decide +kernel)) (fun _ _ _ _ _ => pg_name (i := 2) sc.nd rfl (.inl rfl)) (fun _ _ _ _ _ => pts_nil)
        (fun _ _ _ _ _ => pe_fn G (by exact hr) (by rfl) (pa_cons (pv 0) (pa_cons (pv 2) pa_nil))))), ?_⟩
    refine ⟨_, rfl, (n : Int), rfl, by omega, by omega, fun L nL => ?_⟩
    rw [Int.toNat_natCast]
    exact lc_all (vf := fun x => .bl (dr D x)) wk_range0 nL (by rw [List.length_range]; omega) (fun m H6 hm e6 Q' z => ⟨_, rfl, _, rfl, t, D, m, rfl, hD.ex e6, b0, z H6 (Ex.refl _)⟩) (fun H6 e6 hl6 => q _ _ e6 hl6)
/-! ### _law_shown, _law_circle -/
def spShown (C : Addr) : Sp := fun vs H Q _ => ∃ (a : Addr) (F : Frm), vs = [.ref a] ∧ CircF C H a F ∧ ∀ (t : Addr) (H' : Hp), Ex H H' → FormAt H' t F → Q (.ref t) H'
theorem ok_shown {f : Addr} {fd : FuncData} (F : Fun K "_law_shown" "_law_shown" (topS 45) f fd) (T : Ct K mg C) (Gs : Gts P w K mg base C) : FnOk P w K mg base CX0 3 f fd ["_law_circle_here"] (spShown C) := by
  refine F.ok (N := ["_law_circle_here"]) ⟨rfl, rfl, rfl, by decide +kernel, rfl, by decide +kernel, by decide +kernel⟩ (fun vs H Q E h => ?_) (fun cdv A outer sh H vs Q E hr h => ?_)
  · obtain ⟨a, F, rfl, _⟩ := h
    rfl
  · obtain ⟨a, Fm, rfl, hF, q⟩ := h
    refine ⟨_, pss_one (ps_ret (pe_tup (pa_cons (pe_gt Gs.early T hr (pv 0)) (pa_cons (pe_gt Gs.start T hr (pv 0)) (pa_cons (pe_gt Gs.base_ T hr (pv 0)) (pa_cons (pe_gt Gs.rests T hr (pv 0)) pa_nil)))))), ?_⟩
    refine get_early rfl hF fun te hte => get_start rfl hF (get_base rfl hF (get_rests rfl hF fun tr htr => ⟨(by show 4 ≤ sizeLine; decide), fun t nt => ?_⟩))
    exact q t _ (Ex.new nt) ⟨te, tr, upd_same, Ex.new nt _ _ hte, Ex.new nt _ _ htr⟩
def spCirc (C : Addr) : Sp := fun vs H Q _ => ∃ (t : Addr) (G : Frm), vs = [.ref t] ∧ DrAt H t G ∧ GoodD G ∧ ∀ (a : Addr) (H' : Hp), Ex H H' → Circ C H' a (dr G) → Q (.ref a) H'
theorem ok_circ {f : Addr} {fd : FuncData} (F : Fun K "_law_circle" "_law_circle" (topS 46) f fd) (B : Bt mg) (T : Ct K mg C) (M : Mkr P w K mg base C) : FnOk P w K mg base CX0 6 f fd ["_law_c"] (spCirc C) := by
  refine F.ok (N := ["_law_c"]) ⟨rfl, rfl, rfl, by decide +kernel, rfl, by decide +kernel, by decide +kernel⟩ (fun vs H Q E h => ?_) (fun cdv A outer sh H vs Q E hr h => ?_)
  · obtain ⟨t, G, rfl, _⟩ := h
    rfl
  · obtain ⟨t, G, rfl, ⟨l1, l2, h1, h2, h3⟩, g, q⟩ := h
    refine ⟨_, pss_one (ps_ret (pe_mkr M T hr (by rfl) (pa_cons (pe_callTy call_tuple_of (by rfl) B.tuple (by decide +kernel) (pa_cons (pe_ix ix_tup (pv 0) pe_int (fun _ _ => rfl)) pa_nil)) (pa_cons (pe_ix ix_tup (pv 0) pe_int (fun _ _ => rfl)) (pa_cons (pe_ix ix_tup (pv 0) pe_int (fun _ _ => rfl)) (pa_cons (pe_callTy call_tuple_of (by rfl) B.tuple (by decide +kernel) (pa_cons (pe_ix ix_tup (pv 0) pe_int (fun _ _ => rfl)) pa_nil)) pa_nil)))))), ?_⟩
    refine ⟨_, rfl, t, _, 0, _, rfl, rfl, st_of h1, atI_nat (j := 0) rfl, l1, _, rfl, .inl ⟨sq_of h2, fun p np => ?_⟩⟩
    have e1 := Ex.new (o := .tup (iv G.early)) np
    refine ⟨_, rfl, t, _, 1, _, rfl, rfl, st_of (e1 _ _ h1), atI_nat (j := 1) rfl, _, rfl, t, _, 2, _, rfl, rfl, st_of (e1 _ _ h1), atI_nat (j := 2) rfl, _, rfl, t, _, 3, _, rfl, rfl, st_of (e1 _ _ h1), atI_nat (j := 3) rfl, l2, _, rfl, .inl ⟨sq_of (e1 _ _ h3), fun r nr => ?_⟩⟩
    have e2 := Ex.new (o := .tup (iv G.rests)) nr
    have := g.b1
    have := g.s1
    exact made (e2 _ _ upd_same) upd_same g.pre (by omega) (by omega) fun a H' e3 hc => q a H' ((e1.trans e2).trans e3) hc
end
end K67
set_option Elab.async false
set_option linter.all false
set_option maxRecDepth 100000
set_option maxHeartbeats 8000000
namespace K67
open PySem L2 Evl
section
variable {P : Program} {w : World} {K : PySem.W.Frag} {mg : Str → Option Value} {base : Heap} {C : Addr}
/-! ### _law_keg -/
abbrev nKeg : List Str := ["_law_cells", "_law_at", "_law_own", "_law_blend", "_law_k"]
theorem scKeg : FnScope nKeg ["_law_cells", "_law_at"] (defScope (topS 38)) := ⟨rfl, rfl, rfl, by decide +kernel, rfl, by decide +kernel, by decide +kernel⟩
def spKeg (K : PySem.W.Frag) : Sp := fun vs H Q _ => ∃ (a : Addr) (ns : List Int) (i : Nat), vs = [.ref a, .int (i : Int)] ∧ SqL K H a (ns.map V.int) ∧ ns.length ≤ 1000 ∧ ∀ (k : Addr) (H' : Hp), Ex H H' → H k = none → KegAt H' k → Q (.ref k) H'
theorem ok_keg {f : Addr} {fd : FuncData} (F : Fun K "_law_keg" "_law_keg" (topS 38) f fd) (B : Bt mg) : FnOk P w K mg base CX0 1 f fd ["_law_cells", "_law_at"] (spKeg K) := by
  refine F.ok scKeg (fun vs H Q E h => ?_) (fun cdv A outer sh H vs Q E hr h => ?_)
  · obtain ⟨a, ns, i, rfl, _⟩ := h
    rfl
  · obtain ⟨a, ns, i, rfl, hs, hn, q⟩ := h
    refine ⟨_, Evl.pss_cut (ps_set (i := 2) scKeg.nd rfl (.inl rfl) (pe_ifExp (pt_cmpR op_lt (pv 1) (pe_callB call_len_seq (by rfl) B.len PySem.boot_len (pa_cons (pv 0) pa_nil)) (nomark _)) (pe_ix ix_list (pv 0) (pv 1) (fun _ _ => rfl)) pe_int))
      (pss_cons (ps_set (i := 3) scKeg.nd rfl (.inl rfl) (pe_op op_add pe_int (pe_op op_mul pe_int (pv 1))))
      (pss_cons (ps_for PassesOwn.never rfl (pi_range1 (by rfl) B.range (pa_cons (pe_callB (call_min2 rfl) (by rfl) B.min (by decide +kernel) (pa_cons (pe_callB call_len_seq (by rfl) B.len PySem.boot_len (pa_cons (pv 0) pa_nil)) (pa_cons pe_int pa_nil))) pa_nil)) (pg_name (i := 4) scKeg.nd rfl (.inl rfl))
        (pss_one (ps_set (i := 3) scKeg.nd rfl (.inl rfl) (pe_op op_mod (pe_callTy call_int1 (by rfl) B.int (by decide +kernel) (pa_cons (pe_op op_add (pe_op op_add (pe_op op_mul (pv 3) (pe_op op_add pe_int (pe_op op_mul pe_int (pv 4)))) (pe_op op_mul pe_int (pe_ix ix_list (pv 0) (pv 4) (fun _ _ => rfl)))) pe_int) pa_nil)) pe_int))))
      (pss_one (ps_ret (pe_lst (pa_cons (pe_ifExp (PW.pt (pw_or (pt_cmpR op_lt (pv 2) pe_int (nomark _)) (pw_or1 (pt_cmpR op_ge (pv 2) (pe_op op_pow pe_int pe_int) (nomark _))))) (pe_callB call_abs (by rfl) B.abs (by decide +kernel) (pa_cons (pv 2) pa_nil)) pe_int)
        (pa_cons (pe_op op_mod (pe_callTy call_int1 (by rfl) B.int (by decide +kernel) (pa_cons (pe_op op_add (pe_op op_mul (pv 3) pe_int) (pe_op op_mul (pv 2) pe_int)) pa_nil)) pe_int) (pa_cons pe_int pa_nil)))))))), ?_⟩
    refine ⟨fun σ' H' => ∃ own : Int, σ' = [some (.ref a), some (.int (i : Int)), some (.int own), none, none] ∧ H' = H, ?_, ?_⟩
    · refine ⟨_, rfl, _, rfl, a, _, rfl, .inl hs, _, _, rfl, rfl, _, rfl, itB (fun hc => ?_) (fun hc => ?_)⟩
      · have hc : i < ns.length := by
          have h1 : (i : Int) < (((ns.map V.int).length : Nat) : Int) := of_decide_eq_true hc
          rw [List.length_map] at h1
          omega
        have hg : (ns.map V.int)[i]? = some (.int ns[i]) := by
          rw [List.getElem?_map, List.getElem?_eq_getElem hc]
          rfl
        exact ⟨_, rfl, _, rfl, a, _, _, _, rfl, rfl, hs, atI_nat hg, _, rfl, rfl⟩
      · exact ⟨_, rfl, rfl⟩
    · rintro σ1 H1 ⟨own, rfl, rfl⟩
      refine ⟨_, rfl, _, _, rfl, rfl, .inl ⟨by decide, by decide⟩, _, _, rfl, rfl, ?_⟩
      have hmin : (if (8 : Int) < (((ns.map V.int).length : Nat) : Int) then (8 : Int) else (((ns.map V.int).length : Nat) : Int)) = ((min ns.length 8 : Nat) : Int) := by
        rw [List.length_map]
        split <;> omega
      refine ⟨_, rfl, a, _, rfl, .inl hs, _, _, rfl, _, rfl, ?_⟩
      rw [hmin]
      refine ⟨by omega, by omega, ?_⟩
      rw [Int.toNat_natCast]
      refine for_range (lo := 0) (n := min ns.length 8) (fun j σ H2 => ∃ (b : Int) (x4 : Option V), σ = [some (.ref a), some (.int (i : Int)), some (.int own), some (.int b), x4] ∧ H2 = H1) ⟨_, none, rfl, rfl⟩ ?_ ?_
      · rintro j σ H2 hj ⟨b, x4, rfl, rfl⟩
        rw [Int.zero_add]
        have hj1 : j < ns.length := by omega
        have hg : (ns.map V.int)[j]? = some (.int ns[j]) := by
          rw [List.getElem?_map, List.getElem?_eq_getElem hj1]
          rfl
        refine ⟨_, rfl, _, rfl, _, _, rfl, rfl, .inl ⟨by decide, by decide⟩, _, _, rfl, rfl, _, _, rfl, rfl, .inr ⟨by omega, by omega⟩, ?_⟩
        refine ⟨_, rfl, _, rfl, a, _, _, _, rfl, rfl, hs, atI_nat hg, _, _, rfl, rfl, .inl ⟨by decide, by decide⟩, _, _, rfl, rfl, _, _, rfl, rfl, .inl ⟨_, rfl, _, _, rfl, rfl, (by show (0 : Int) < 2147482801; decide), _, _, rfl, rfl⟩⟩
      · rintro σ H2 ⟨b, x4, rfl, rfl⟩
        have fin : ∀ v : Int, tCons (tOp (rI (fun x j => 0 < j) fun i j => .int (i % j)) (tCB (fun xs H Q => (∃ i, xs = [V.int i] ∧ Q (.int i) H) ∨ ∃ k, xs = [V.bl k] ∧ Q (.int (if k = true then 1 else 0)) H)
            (tCons (tOp (rI0 fun i j => .int (i + j)) (tOp (rI CMul fun i j => .int (i * j)) (tVar 3) (tC (.int 47))) (tOp (rI CMul fun i j => .int (i * j)) (tVar 2) (tC (.int 937)))) tNil)) (tC (.int 2147482801))) (tCons (tC (.int 1)) tNil)
            [some (.ref a), some (.int (i : Int)), some (.int own), some (.int b), x4] H2 fun vs H' => vs.length + 1 ≤ sizeLine ∧ ∀ p, H' p = none → Q (.ref p) (upd H' p (.lst (.int v :: vs))) := fun v => by
          refine ⟨_, rfl, _, _, rfl, rfl, .inr ⟨by decide, by decide⟩, _, rfl, _, _, rfl, rfl, .inr ⟨by decide, by decide⟩, _, _, rfl, rfl, .inl ⟨_, rfl, _, _, rfl, rfl, (by show (0 : Int) < 2147482801; decide), ?_⟩⟩
          exact ⟨(by show 3 ≤ sizeLine; decide), fun p np => q p _ (Ex.new np) np ⟨_, _, _, upd_same⟩⟩
        refine ⟨_, rfl, _, _, rfl, rfl, _, rfl, itB (fun hc => ?_) (fun hc => ?_)⟩
        · exact ⟨_, rfl, _, rfl, fin _⟩
        · refine ⟨_, rfl, _, _, rfl, rfl, ⟨by decide, by decide, by decide⟩, _, _, rfl, rfl, _, rfl, itB (fun hc => ?_) (fun hc => ?_)⟩
          · exact ⟨_, rfl, _, rfl, fin _⟩
          · exact fin _
end
end K67
set_option Elab.async false
set_option linter.all false
set_option maxRecDepth 100000
set_option maxHeartbeats 8000000
namespace K67
open PySem L2 Evl
theorem filt_lt (n : Nat) (f : Nat → Bool) : ((List.range n).filter f).length ≤ n := by
  have := List.length_filter_le f (List.range n)
  rwa [List.length_range] at this
section
variable {P : Program} {w : World} {K : PySem.W.Frag} {mg : Str → Option Value} {base : Heap} {C : Addr}
abbrev nFo : List Str := ["_law_flags_here", "_law_wide", "_law_p", "_law_begin", "_law_lot", "_law_x"]
theorem scFo : FnScope nFo ["_law_flags_here"] (defScope (topS 44)) := ⟨rfl, rfl, rfl, by decide +kernel, rfl, by decide +kernel, by decide +kernel⟩
def spFo : Sp := fun vs H Q _ => ∃ (l : Addr) (f : Nat → Bool) (L : Nat), vs = [.ref l] ∧ H l = some (.lst (bv f 130)) ∧ 0 < L ∧ L ≤ 30 ∧ Per f 6 L ∧ ∀ (t : Addr) (F : Frm) (H' : Hp), Ex H H' → FormAt H' t F → IsForm f F → Q (.ref t) H'
theorem ok_fo {f : Addr} {fd : FuncData} (F : Fun K "_law_form" "_law_form" (topS 44) f fd) (B : Bt mg) : FnOk P w K mg base CX0 1 f fd ["_law_flags_here"] spFo := by
  refine F.ok scFo (fun vs H Q E h => ?_) (fun cdv A outer sh H vs Q E hr h => ?_)
  · obtain ⟨l, u, L, rfl, _⟩ := h
    rfl
  · obtain ⟨l, u, L, rfl, hl, L0, L1, hp, q⟩ := h
    refine ⟨_, pss_cons (ps_set (i := 1) scFo.nd rfl (.inl rfl) (pe_callB call_len_seq (by rfl) B.len PySem.boot_len (pa_cons (pv 0) pa_nil)))
      (pss_cons (ps_for PassesOwn.never rfl (pi_range2 (by rfl) B.range (pa_cons pe_int (pa_cons (pe_op op_fdiv (pv 1) pe_int) pa_nil))) (pg_name (i := 2) scFo.nd rfl (.inr rfl))
        (pss_cons (ps_set (i := 3) scFo.nd rfl (.inl rfl) (pe_op op_sub (pv 1) (pv 2)))
        (Evl.pss_cut (ps_while PassesOwn.never (PW.pt (pw_and (pt_cmpR op_gt (pv 3) pe_int (nomark _)) (pw_and1 (pt_cmpR op_eq (pe_ix ix_list (pv 0) (pe_op op_sub (pv 3) pe_int) (fun _ _ => rfl)) (pe_ix ix_list (pv 0) (pe_op op_add (pe_op op_sub (pv 3) pe_int) (pv 2)) (fun _ _ => rfl)) (nomark _)))))
          (pss_one (ps_set (i := 3) scFo.nd rfl (.inl rfl) (pe_op op_sub (pv 3) pe_int))))
        (pss_one (ps_if (pt_cmpR op_le (pv 3) (pe_op op_fdiv (pv 1) pe_int) (nomark _))
          (pss_cons (ps_set (i := 4) scFo.nd rfl (.inl rfl) (pe_callB cr_sortedI (by rfl) B.sorted (by decide +kernel) (pa_cons
            (pe_lc (own := [("_law_x", 5)]) (g := gName 5) (te := tOp (rI (fun _ j => 0 < j) fun i j => .int (i % j)) (tCB (fun xs H Q => (∃ i, xs = [V.int i] ∧ Q (.int i) H) ∨ ∃ k, xs = [V.bl k] ∧ Q (.int (if k then 1 else 0)) H) (tCons (tVar 5) tNil)) (tVar 2)) rfl scFo.nd (pi_range2 (by rfl) B.range (pa_cons (pv 3) (pa_cons (pe_op op_add (pv 3) (pv 2)) pa_nil))) (blkOk_by (N := nFo) (sc := defScope (topS 44)) (by decide +kernel)) (fun _ _ _ _ _ => pg_name (i := 5) scFo.nd rfl (.inl rfl)) (fun _ _ _ _ _ => pts_one (pt_val (pe_ix (r := rIxL K) ix_list (pv 0) (pv 5) (fun _ _ => rfl))))
              (fun _ _ _ _ _ => pe_op op_mod (pe_callTy call_int1 (by rfl) B.int (by decide +kernel) (pa_cons (pv 5) pa_nil)) (pv 2))) pa_nil)))
          (pss_one (ps_ret (pe_tup (pa_cons (pe_callTy call_tuple_of (by rfl) B.tuple (by decide +kernel) (pa_cons
            (pe_lc (own := [("_law_x", 5)]) (g := gName 5) (te := tVar 5) rfl scFo.nd (pi_range1 (by rfl) B.range (pa_cons (pv 3) pa_nil)) (blkOk_by (N := nFo) (sc := defScope (topS 44)) (by decide +kernel)) (fun _ _ _ _ _ => pg_name (i := 5) scFo.nd rfl (.inl rfl)) (fun _ _ _ _ _ => pts_one (pt_val (pe_ix (r := rIxL K) ix_list (pv 0) (pv 5) (fun _ _ => rfl))))
              (fun _ _ _ _ _ => pv 5)) pa_nil)) (pa_cons (pv 3) (pa_cons (pv 2) (pa_cons (pe_callTy call_tuple_of (by rfl) B.tuple (by decide +kernel) (pa_cons (pv 4) pa_nil)) pa_nil))))))))
          pss_nil)))))
      (pss_one (ps_ret (pe_tup (pa_cons (pe_tup pa_nil) (pa_cons (pe_un un_neg pe_int) (pa_cons pe_int (pa_cons (pe_tup pa_nil) pa_nil)))))))), ?_⟩
    refine ⟨_, rfl, l, _, rfl, .inl (sq_of hl), ?_⟩
    rw [bv_len]
    refine ⟨_, rfl, _, _, rfl, rfl, ⟨by decide, by decide⟩, 1, 43, rfl, ⟨by decide, by decide, by decide, by decide⟩, for_range (lo := 1) (n := 42) (fun i σ H2 => ∃ x2 x3, σ = [some (.ref l), some (.int ((130 : Nat) : Int)), x2, x3, none, none] ∧ H2 = H ∧ ∀ q, 0 < q → q < i + 1 → 43 < down u q (130 - q)) ⟨none, none, rfl, rfl, fun q a b => by omega⟩ ?_ ?_⟩
    · rintro i σ H2 hi ⟨x2, x3, rfl, rfl, hno⟩
      have ep : (1 : Int) + (i : Int) = ((i + 1 : Nat) : Int) := by omega
      rw [ep]
      have hi2 : i + 1 ≤ 42 := by omega
      have hp0 : 0 < i + 1 := by omega
      generalize i + 1 = p at hno hi2 hp0 ⊢
      have eb : ((130 : Nat) : Int) - (p : Int) = ((130 - p : Nat) : Int) := by omega
      refine ⟨_, rfl, _, rfl, _, _, rfl, rfl, ?_⟩
      -- the while
      refine ⟨fun σ H3 => σ = [some (.ref l), some (.int ((130 : Nat) : Int)), some (.int (p : Int)), some (.int ((down u p (130 - p) : Nat) : Int)), none, none] ∧ H3 = H2, ?_, ?_⟩
      · refine ⟨fun m σ H3 => σ = [some (.ref l), some (.int ((130 : Nat) : Int)), some (.int (p : Int)), some (.int (m : Int)), none, none] ∧ H3 = H2 ∧ m + p ≤ 130 ∧ down u p m = down u p (130 - p), ⟨130 - p, ?_, rfl, by omega, rfl⟩, ?_⟩
        · show [_, _, _, some (V.int (((130 : Nat) : Int) - (p : Int))), _, _] = _
          rw [eb]
        · rintro m σ H3 ⟨rfl, rfl, hm, hd⟩
          refine ⟨_, rfl, _, _, rfl, rfl, _, rfl, itB (fun hc => ?_) (fun hc => ?_)⟩
          · have hc : (0 : Int) < (m : Int) := of_decide_eq_true hc
            obtain ⟨b, rfl⟩ : ∃ b, m = b + 1 := ⟨m - 1, by omega⟩
            have e1 : ((b + 1 : Nat) : Int) - 1 = ((b : Nat) : Int) := by omega
            have e2 : ((b + 1 : Nat) : Int) - 1 + (p : Int) = ((b + p : Nat) : Int) := by omega
            have g1 : atI (bv u 130) (((b + 1 : Nat) : Int) - 1) = some (.bl (u b)) := by
              rw [e1]
              exact atI_nat (bv_at (by omega))
            have g2 : atI (bv u 130) (((b + 1 : Nat) : Int) - 1 + (p : Int)) = some (.bl (u (b + p))) := by
              rw [e2]
              exact atI_nat (bv_at (by omega))
            have hdd : down u p (b + 1) = if u b == u (b + p) then down u p b else b + 1 := rfl
            refine ⟨_, rfl, _, rfl, _, _, rfl, rfl, l, _, _, _, rfl, rfl, sq_of hl, g1, _, rfl, _, rfl, _, _, rfl, rfl, _, rfl, _, _, rfl, rfl, l, _, _, _, rfl, rfl, sq_of hl, g2, rfl, _, rfl, itB (fun hx => ?_) (fun hx => ?_)⟩
            · have hx : u b = u (b + p) := V.bl.inj (of_decide_eq_true hx)
              refine ⟨fun σ' H' => σ' = [some (.ref l), some (.int ((130 : Nat) : Int)), some (.int (p : Int)), some (.int (b : Int)), none, none] ∧ H' = H3, fun σ' H' ⟨a, c⟩ => ⟨b, Nat.lt_succ_self b, a, c, by omega, ?_⟩, _, rfl, _, _, rfl, rfl, ?_, rfl⟩
              · rw [← hd, hdd, hx]
                simp
              · show [_, _, _, some (V.int (((b + 1 : Nat) : Int) - 1)), _, _] = _
                rw [e1]
            · have hx : ¬ u b = u (b + p) := fun z => of_decide_eq_false hx (by rw [z])
              refine ⟨?_, rfl⟩
              rw [← hd, hdd, if_neg (by simpa using hx)]
          · have hc : ¬ (0 : Int) < (m : Int) := of_decide_eq_false hc
            obtain rfl : m = 0 := by omega
            refine ⟨?_, rfl⟩
            rw [← hd]
            rfl
      · rintro σ H3 ⟨rfl, rfl⟩
        have hdl : down u p (130 - p) ≤ 130 - p := down_le u p _
        have fo := fun hy => form_ok (f := u) (p := p) L0 L1 hp hp0 (by omega) hno hy
        generalize hB : down u p (130 - p) = b at hdl fo
        refine ⟨_, rfl, _, rfl, _, _, rfl, rfl, ⟨by decide, by decide⟩, _, _, rfl, rfl, _, rfl, itB (fun hc => ?_) (fun hc => ?_)⟩
        · have hc : b ≤ 43 := by
            have h1 : (b : Int) ≤ ((130 : Nat) : Int) / 3 := of_decide_eq_true hc
            have h2 : ((130 : Nat) : Int) / 3 = 43 := by decide
            omega
          have fo := fo hc
          have ebp : (((b : Int) + (p : Int)) - (b : Int)).toNat = p := by omega
          refine ⟨_, rfl, _, rfl, _, rfl, _, _, rfl, rfl, (b : Int), (b : Int) + (p : Int), rfl, ⟨by omega, by omega, by omega, by omega⟩, fun D nD => ?_⟩
          rw [ebp]
          refine lc_fm (fl := u) (vf := fun n => .int ((n % p : Nat) : Int)) wk_range nD (by rw [List.length_map, List.length_range]; omega) (fun n H4 hn e4 Q' z => ?_) (fun n H4 hn _ e4 Q' z => ⟨_, rfl, .inl ⟨_, rfl, _, rfl, _, _, rfl, rfl, (by show (0 : Int) < p; omega), z H4 (Ex.refl _)⟩⟩) (fun H4 e4 h4 => ?_)
          · obtain ⟨j, hj, rfl⟩ := List.mem_map.mp hn
            have hj : j < p := by simpa using hj
            exact ⟨_, rfl, _, rfl, l, _, _, _, rfl, rfl, sq_of (e4 _ _ hl), atI_nat (bv_at (by omega)), _, rfl, z H4 (Ex.refl _)⟩
          · rw [gath_fm, iv_ints] at h4
            refine ⟨D, zs (gath u b p), rfl, sq_of h4, fun ns' r hperm hrise nr => ?_⟩
            have hns : ns' = zs ((List.range p).filter fun x => u (x + p * b)) := sorted_is (gath_nodup _ _ _) hperm hrise (range_strict _ _) (gath_mem fo.per hp0)
            have e5 := ex_up (o := .lst (ns'.map V.int)) e4 nr
            refine ⟨_, rfl, (b : Int), rfl, by omega, by omega, fun D2 nD2 => ?_⟩
            rw [Int.toNat_natCast]
            refine lc_fm (fl := u) (vf := fun n => .int (n : Int)) wk_range0 nD2 (by rw [List.length_range]; omega) (fun n H5 hn e6 Q' z => ?_) (fun n H5 hn _ e6 Q' z => ⟨_, rfl, z H5 (Ex.refl _)⟩) (fun H5 e6 h5 => ?_)
            · have hn : n < b := by simpa using hn
              exact ⟨_, rfl, _, rfl, l, _, _, _, rfl, rfl, sq_of (e6 _ _ (e5 _ _ hl)), atI_nat (bv_at (by omega)), _, rfl, z H5 (Ex.refl _)⟩
            · have hr5 := e6 _ _ (show upd H4 r (.lst (ns'.map V.int)) r = some _ from upd_same)
              refine ⟨D2, _, rfl, .inl ⟨sq_of h5, fun te nte => ?_⟩⟩
              have e7 := ex_up (o := .tup (((List.range b).filter u).map fun (n : Nat) => V.int (n : Int))) (e5.trans e6) nte
              refine ⟨_, rfl, _, rfl, _, rfl, r, _, rfl, .inl ⟨sq_of (Ex.new nte _ _ hr5), fun tr ntr => ⟨(by show 4 ≤ sizeLine; decide), fun t nt => ?_⟩⟩⟩
              have e8 := ex_up (o := .tup (ns'.map V.int)) e7 ntr
              have e9 := ex_up (o := .tup [.ref te, .int (b : Int), .int (p : Int), .ref tr]) e8 nt
              refine q t ⟨(List.range b).filter u, b, p, (List.range p).filter fun x => u (x + p * b)⟩ _ e9 ⟨te, tr, upd_same, ?_, ?_⟩ fo
              · exact Ex.new nt _ _ (Ex.new ntr _ _ upd_same)
              · show _ = some (HO.tup (iv ((List.range p).filter fun x => u (x + p * b))))
                rw [show iv ((List.range p).filter fun x => u (x + p * b)) = ns'.map V.int by rw [iv_ints, ← hns]]
                exact Ex.new nt _ _ upd_same
        · have hc : 43 < b := by
            have h1 : ¬ (b : Int) ≤ ((130 : Nat) : Int) / 3 := of_decide_eq_false hc
            have h2 : ((130 : Nat) : Int) / 3 = 43 := by decide
            omega
          refine ⟨_, _, rfl, rfl, fun q' a c => ?_⟩
          rcases Nat.lt_or_ge q' p with z | z
          · exact hno q' a z
          · obtain rfl : q' = p := by omega
            rw [hB]
            exact hc
    · rintro σ H2 ⟨x2, x3, rfl, rfl, hno⟩
      exact (form_ex L0 L1 hp fun q a b => hno q a (by omega)).elim
end
end K67
set_option Elab.async false
set_option linter.all false
set_option maxRecDepth 100000
set_option maxHeartbeats 8000000
namespace K67R
open PySem PySem.Spec PyProof.Rows L2
/-- f(k = e, ..), nothing by position -/
theorem pe_callK0 {X : Cx} {CX : CXT} {k : Nat} {f : Addr} {fd : FuncData} {ps ks : List Str} {sp : Sp} {E : XK} {x : Str} {p pos : Pos} {kws : List Keyword} {tk : TA} {g : List Value → List Value → List Value} {gV : List V → List V → List V}
    (F : FnOk X.prog X.w X.K X.mg X.base CX k f fd ps sp) (hr : Room k X.A) (hg : Gl X x) (hm : X.mg x = some (.ref f)) (hk : PySem.W.keepIn X.K (.ref f) = true) (hb : KBinds X.K fd ps ks g gV) (hx : Passes CX X E)
    (hkw : PK X kws tk) (hall : (backToKw pos (keywordEach kws X.env)).all (·.1.isSome) = true := by rfl) (hks : (backToKw pos (keywordEach kws X.env)).filterMap (·.1) = ks := by rfl)
    (hdb : (x == ("__debug__" : Str)) = false := by decide)
    (hpl : ((backTo pos (starEach [] X.env)).any (·.1) || (backToKw pos (keywordEach kws X.env)).any (·.1.isNone)) = false := by rfl) :
    PE X (.Call (.Name x p) [] kws pos) (tCallK sp gV E tNil tk) := by
  refine ⟨fun pins s σ H Q I h => ?_⟩
  refine wpAny_Call_Name_kw (ld_glob I hg hm ?_ hdb)
  refine PySem.W.callWith_KW0 (h₀ := X.base) I.ok.mod.kin hk hall (thn (hkw.run pos pins s σ H _ I h) fun ws s2 ⟨zs, H2, I2, rz, q2⟩ => ⟨I2.kIn, ?_⟩) hpl
  rw [hks]
  exact run_fnk (us := []) (vs := []) F hr hb hx I2 .nil rz q2
def gTwo : List Value → List Value → List Value
  | [], [a, b] => [b, a]
  | _, _ => []
def gTwoV : List V → List V → List V
  | [], [a, b] => [b, a]
  | _, _ => []
def gOne : List Value → List Value → List Value
  | [], [a] => [a]
  | _, _ => []
def gOneV : List V → List V → List V
  | [], [a] => [a]
  | _, _ => []
theorem gTwo_rel {vs : List V} {us : List Value} {zs : List V} {ws : List Value} (h1 : Vals vs us) (h2 : Vals zs ws) : Vals (gTwoV vs zs) (gTwo us ws) := by
  cases h1 with
  | cons _ _ => exact .nil
  | nil =>
    cases h2 with
    | nil => exact .nil
    | cons a r =>
      cases r with
      | nil => exact .nil
      | cons b r =>
        cases r with
        | nil => exact .cons b (.cons a .nil)
        | cons _ _ => exact .nil
theorem gOne_rel {vs : List V} {us : List Value} {zs : List V} {ws : List Value} (h1 : Vals vs us) (h2 : Vals zs ws) : Vals (gOneV vs zs) (gOne us ws) := by
  cases h1 with
  | cons _ _ => exact .nil
  | nil =>
    cases h2 with
    | nil => exact .nil
    | cons a r =>
      cases r with
      | nil => exact .cons a .nil
      | cons _ _ => exact .nil
theorem kb_two {K : PySem.W.Frag} {fd : FuncData} {p q : Str} (h : ∀ a b : Value, bindArgs fd ⟨[], [(q, a), (p, b)]⟩ = pure [(p, b), (q, a)]) : KBinds K fd [p, q] [q, p] gTwo gTwoV where
  to := fun s us ws _ hl => by
    match us, ws, hl with
    | [], [a, b], _ => exact .of_eq (h a b)
    | [], [], hl => cases hl
    | [], [_], hl => cases hl
    | [], _ :: _ :: _ :: _, hl => cases hl
    | _ :: _, _, hl => cases hl
  rel := gTwo_rel
theorem kb_one {K : PySem.W.Frag} {fd : FuncData} {p : Str} (h : ∀ a : Value, bindArgs fd ⟨[], [(p, a)]⟩ = pure [(p, a)]) : KBinds K fd [p] [p] gOne gOneV where
  to := fun s us ws _ hl => by
    match us, ws, hl with
    | [], [a], _ => exact .of_eq (h a)
    | [], [], hl => cases hl
    | [], _ :: _ :: _, hl => cases hl
    | _ :: _, _, hl => cases hl
  rel := gOne_rel
end K67R
namespace K67
open PySem L2 Evl LamX
/-- a def that is called by keywords too -/
structure FnW (P : Program) (w : World) (K : PySem.W.Frag) (mg : Str → Option Value) (base : Heap) (k : Nat) (x : Str) (ps ks : List Str) (g : List Value → List Value → List Value) (gV : List V → List V → List V) (sp : Sp) : Prop where
  ex : ∃ f fd, FnOk P w K mg base CX0 k f fd ps sp ∧ mg x = some (.ref f) ∧ PySem.W.keepIn K (.ref f) = true ∧ KBinds K fd ps ks g gV
theorem pe_fnW {X : Cx} {k : Nat} {ps ks : List Str} {sp : Sp} {x : Str} {p pos : Pos} {kws : List Keyword} {tk : TA} {g : List Value → List Value → List Value} {gV : List V → List V → List V} (G : FnW X.prog X.w X.K X.mg X.base k x ps ks g gV sp) (hr : Room k X.A) (hg : Gl X x) (hkw : PK X kws tk)
    (hdb : (x == ("__debug__" : Str)) = false := by decide) (hall : (backToKw pos (keywordEach kws X.env)).all (·.1.isSome) = true := by rfl) (hks : (backToKw pos (keywordEach kws X.env)).filterMap (·.1) = ks := by rfl)
    (hpl : ((backTo pos (starEach [] X.env)).any (·.1) || (backToKw pos (keywordEach kws X.env)).any (·.1.isNone)) = false := by rfl) : PE X (.Call (.Name x p) [] kws pos) (tCallK sp gV E0 tNil tk) := by
  obtain ⟨f, fd, F, hm, hk, hb⟩ := G.ex
  exact K67R.pe_callK0 F hr hg hm hk hb pass0 hkw hall hks hdb hpl
/-- the own == -/
structure Eqs (P : Program) (w : World) (K : PySem.W.Frag) (mg : Str → Option Value) (base : Heap) (C : Addr) : Prop where
  ex : ∃ f fd, K67R.EqF K C f ∧ FnOk P w K mg base CX0 1 f fd ["self", "other"] (spEq2 C) ∧ Binds K fd ["self", "other"] []
theorem op_eqC {X : Cx} {C : Addr} (G : Eqs X.prog X.w X.K X.mg X.base C) (hr : Room 1 X.A) : OpR X (compareOp .Eq) (K67R.rOwn C (spEq2 C) E0 false) := by
  obtain ⟨f, fd, e, F, hb⟩ := G.ex
  exact K67R.op_eqOwn F e hr hb pass0
theorem op_neC {X : Cx} {C : Addr} (G : Eqs X.prog X.w X.K X.mg X.base C) (hr : Room 2 X.A) : OpR X (compareOp .NotEq) (K67R.rOwn C (spEq2 C) E0 true) := by
  obtain ⟨f, fd, e, F, hb⟩ := G.ex
  exact K67R.op_neOwn F e hr hb pass0
theorem own_eq {C : Addr} {H : Hp} {a b : Addr} {u v : Nat → Bool} {neg : Bool} {Q : VK} (h1 : Circ C H a u) (h2 : Circ C H b v) (q : ∀ r : Bool, (r = true ↔ u = v) → Q (.bl (if neg then !r else r)) H) : K67R.rOwn C (spEq2 C) E0 neg (.ref a) (.ref b) H Q := by
  obtain ⟨dx, t, F, k1, k2, k3⟩ := id h1
  obtain ⟨dy, t', F', l1, l2, l3⟩ := id h2
  exact ⟨a, b, dx, dy, _, _, rfl, rfl, k1, l1, a, b, u, v, rfl, h1, h2, fun r hr => ⟨r, rfl, q r hr⟩⟩
/-! ### two forms that are one -/
def twoD (F : Frm) : PyData := .list [formD F, formD F]
theorem twoD_ok (F : Frm) : SeqAt.shaped (twoD F) = true := by
  obtain ⟨h1, h2⟩ := formD_lay F
  unfold SeqAt.shaped
  have e1 : (twoD F).canLay0 = true := by
    show (PyData.canLay0 (formD F) && (PyData.canLay0 (formD F) && true)) = true
    rw [h1]
    rfl
  have e2 : (twoD F).depth ≤ 64 := by
    show max (PyData.depth (formD F)) (max (PyData.depth (formD F)) 0) + 1 ≤ 64
    omega
  rw [e1, decide_eq_true e2]
  rfl
theorem twoD_eq (F : Frm) : PyData.eqv (twoD F) (twoD F) = true := by
  have h : PyData.eqv (formD F) (formD F) = true := (formD_eq F F).mpr rfl
  show (PyData.eqv (formD F) (formD F) && (PyData.eqv (formD F) (formD F) && true)) = true
  rw [h]
  rfl
theorem two_ne {K : PySem.W.Frag} {H : Hp} {p q t1 t2 t3 t4 : Addr} {F : Frm} {Q : VK} (hp : H p = some (.lst [.ref t1, .ref t2])) (hq : H q = some (.lst [.ref t3, .ref t4])) (h1 : FormAt H t1 F) (h2 : FormAt H t2 F) (h3 : FormAt H t3 F) (h4 : FormAt H t4 F) (z : Q (.bl false) H) : rNeD K (.ref p) (.ref q) H Q := by
  refine ⟨twoD F, twoD F, .lst (sq_of hp) (.cons h1.dp (.cons h2.dp .nil)), .lst (sq_of hq) (.cons h3.dp (.cons h4.dp .nil)), twoD_ok F, twoD_ok F, ?_⟩
  rw [twoD_eq]
  exact z
theorem FormAt.keep {H H' : Hp} {t : Addr} {F : Frm} (h : FormAt H t F) (e : ExtN H H') : FormAt H' t F := by
  obtain ⟨te, tr, h1, h2, h3⟩ := h
  exact ⟨te, tr, e _ _ h1 (fun _ z => by cases z), e _ _ h2 (fun _ z => by cases z), e _ _ h3 (fun _ z => by cases z)⟩
theorem Circ.shown {C : Addr} {H : Hp} {a : Addr} {u : Nat → Bool} (h : Circ C H a u) {F : Frm} (hF : IsForm u F) : CircF C H a F := by
  obtain ⟨G, h1, h2⟩ := h.form
  rw [hF.uniq h2]
  exact h1
/-- what stands between two steps of _law_pair_right and _law_order_right -/
structure PF (T : List (Addr × Str)) (C : Addr) (H0 : Hp) (a b ln lf : Addr) (u v : Nat → Bool) (H : Hp) : Prop where
  tw : Tw C H a b u v
  near : H ln = some (.lst (bv u 130))
  far : H lf = some (.lst (bv v 130))
  tb : Tabs T H
  ext : ExtN H0 H
theorem PF.to {T : List (Addr × Str)} {C : Addr} {H0 : Hp} {a b ln lf : Addr} {u v : Nat → Bool} {H H' : Hp} (h : PF T C H0 a b ln lf u v H) (e : ExtN H H') (t : Tabs T H') : PF T C H0 a b ln lf u v H' :=
  ⟨h.tw.keep e, e _ _ h.near (fun _ z => by cases z), e _ _ h.far (fun _ z => by cases z), t, h.ext.trans e⟩
theorem PF.ex {T : List (Addr × Str)} {C : Addr} {H0 : Hp} {a b ln lf : Addr} {u v : Nat → Bool} {H H' : Hp} (h : PF T C H0 a b ln lf u v H) (e : Ex H H') : PF T C H0 a b ln lf u v H' := h.to (.of e) (h.tb.ext e)
section
variable {P : Program} {w : World} {K : PySem.W.Frag} {mg : Str → Option Value} {base : Heap} {C : Addr} {T : List (Addr × Str)} {H0 : Hp} {a b ln lf : Addr} {u v : Nat → Bool}
/-- _law_due = _law_form([..]) -/
theorem due_two {te : TE} {j i : Nat} {σ : L2.St} {H : Hp} {f : Nat → Bool} {L : Nat} {D : Ends} (h : PF T C H0 a b ln lf u v H) (L0 : 0 < L) (L1 : L ≤ 30) (hp : Per f 6 L)
    (he : ∀ (n : Nat) (H : Hp), n < 130 → PF T C H0 a b ln lf u v H → ∀ Q : VK, Q (.bl (f n)) H → te ((wipe σ [j]).set j (some (.int (n : Int)))) H Q)
    (q : ∀ (t : Addr) (F : Frm) (H' : Hp), PF T C H0 a b ln lf u v H' → FormAt H' t F → IsForm f F → D.nx (σ.set i (some (.ref t))) H') :
    tAsg (tCall spFo [] E0 (tCons (tLc (iRng1 (tCons (tC (.int 130)) tNil)) (gName j) tYes te [j]) tNil)) (gName i) D σ H := by
  refine ⟨130, rfl, by decide, by decide, fun L nL => ?_⟩
  show ∃ W, _
  rw [show ((130 : Int).toNat) = 130 from rfl]
  refine lc_all (vf := fun n => .bl (f n)) wk_range0 nL (by rw [List.length_range]; decide) (fun n H1 hn e1 Q' z => he n H1 (by simpa using hn) (h.ex e1) Q' (z H1 (Ex.refl _))) (fun H1 e1 hl => ?_)
  exact ⟨L, f, _, rfl, hl, L0, L1, hp, fun t F H2 e2 h1 h2 => q t F H2 ((h.ex e1).ex e2) h1 h2⟩
/-- if [_law_shown(g(mine, mate)), _law_shown(g(other = mate, one = mine))] != [due, due] -/
theorem cmp_two {g : Bool → Bool → Bool} {σ : L2.St} {H : Hp} {F : Frm} {d : Addr} {Q : Bool → Hp → Prop} (h : PF T C H0 a b ln lf u v H) (s2 : σ[2]? = some (some (.ref a))) (s3 : σ[3]? = some (some (.ref b))) (s6 : σ[6]? = some (some (.ref d))) (hd : FormAt H d F) (hF : IsForm (fun x => g (u x) (v x)) F)
    (q : ∀ H', PF T C H0 a b ln lf u v H' → Q false H') :
    tTest (tOp (rNeD K) (tLst (tCons (tCall (spShown C) [] E0 (tCons (tCall (spTw T C g) [] E0 (tCons (tVar 2) (tCons (tVar 3) tNil))) tNil)) (tCons (tCall (spShown C) [] E0 (tCons (tCallK (spTw T C g) K67R.gTwoV E0 tNil (tCons (tVar 3) (tCons (tVar 2) tNil))) tNil)) tNil)))
      (tLst (tCons (tVar 6) (tCons (tVar 6) tNil)))) σ H Q := by
  refine ⟨_, s2, _, s3, a, b, u, v, rfl, h.tw, h.tb, fun r1 H1 e1 t1 c1 => ?_⟩
  have h1 := h.to e1 t1
  refine ⟨r1, F, rfl, c1.shown hF, fun p1 H2 e2 f1 => ?_⟩
  have h2 := h1.ex e2
  refine ⟨_, s3, _, s2, a, b, u, v, rfl, h2.tw, h2.tb, fun r2 H3 e3 t3 c2 => ?_⟩
  have h3 := h2.to e3 t3
  refine ⟨r2, F, rfl, c2.shown hF, fun p2 H4 e4 f2 => ⟨(by show 2 ≤ sizeLine; decide), fun l nl => ?_⟩⟩
  have h4 := h3.ex e4
  have e5 := Ex.new (o := .lst [.ref p1, .ref p2]) nl
  refine ⟨_, s6, _, s6, (by show 2 ≤ sizeLine; decide), fun m nm => ?_⟩
  have e6 := Ex.new (o := .lst [.ref d, .ref d]) nm
  have e56 := e5.trans e6
  have hd4 := (((hd.keep e1).ex e2).keep e3).ex e4
  have f14 := (f1.keep e3).ex e4
  exact two_ne (e6 _ _ upd_same) upd_same (f14.ex e56) (f2.ex e56) (hd4.ex e56) (hd4.ex e56) ⟨_, rfl, q _ (h4.ex e56)⟩
end
end K67
set_option Elab.async false
set_option linter.all false
set_option maxRecDepth 100000
set_option maxHeartbeats 8000000
namespace K67
open PySem L2 Evl LamX
section
variable {P : Program} {w : World} {K : PySem.W.Frag} {mg : Str → Option Value} {base : Heap} {C : Addr} {T : List (Addr × Str)} {H0 : Hp} {a b ln lf : Addr} {u v : Nat → Bool}
/-- if [_law_shown(rest_of(mine)), _law_shown(rest_of(one = mine))] != [due, due] -/
theorem cmp_one {σ : L2.St} {H : Hp} {F : Frm} {d : Addr} {Q : Bool → Hp → Prop} (h : PF T C H0 a b ln lf u v H) (s2 : σ[2]? = some (some (.ref a))) (s6 : σ[6]? = some (some (.ref d))) (hd : FormAt H d F) (hF : IsForm (fun x => !u x) F)
    (q : ∀ H', PF T C H0 a b ln lf u v H' → Q false H') :
    tTest (tOp (rNeD K) (tLst (tCons (tCall (spShown C) [] E0 (tCons (tCall (spRe C) [] E0 (tCons (tVar 2) tNil)) tNil)) (tCons (tCall (spShown C) [] E0 (tCons (tCallK (spRe C) K67R.gOneV E0 tNil (tCons (tVar 2) tNil)) tNil)) tNil)))
      (tLst (tCons (tVar 6) (tCons (tVar 6) tNil)))) σ H Q := by
  obtain ⟨M, m0, m1, pu, pv⟩ := h.tw.2.2
  refine ⟨_, s2, a, u, M, rfl, h.tw.1, m0, m1, pu, fun r1 H1 e1 c1 => ?_⟩
  have h1 := h.ex e1
  refine ⟨r1, F, rfl, c1.shown hF, fun p1 H2 e2 f1 => ?_⟩
  have h2 := h1.ex e2
  refine ⟨_, s2, a, u, M, rfl, h2.tw.1, m0, m1, pu, fun r2 H3 e3 c2 => ?_⟩
  have h3 := h2.ex e3
  refine ⟨r2, F, rfl, c2.shown hF, fun p2 H4 e4 f2 => ⟨(by show 2 ≤ sizeLine; decide), fun l nl => ?_⟩⟩
  have h4 := h3.ex e4
  have e5 := Ex.new (o := .lst [.ref p1, .ref p2]) nl
  refine ⟨_, s6, _, s6, (by show 2 ≤ sizeLine; decide), fun m nm => ?_⟩
  have e6 := Ex.new (o := .lst [.ref d, .ref d]) nm
  have e56 := e5.trans e6
  have hd4 := (((hd.ex e1).ex e2).ex e3).ex e4
  have f14 := (f1.ex e3).ex e4
  exact two_ne (e6 _ _ upd_same) upd_same (f14.ex e56) (f2.ex e56) (hd4.ex e56) (hd4.ex e56) ⟨_, rfl, q _ (h4.ex e56)⟩
/-- all that _law_pair_right and _law_order_right call -/
structure Calls (P : Program) (w : World) (K : PySem.W.Frag) (mg : Str → Option Value) (base : Heap) (C : Addr) (T : List (Addr × Str)) : Prop where
  circle : Fn P w K mg base 6 "_law_circle" ["_law_c"] (spCirc C)
  flags : Fn P w K mg base 2 "_law_flags" ["_law_c", "_law_wide"] spFlags
  form : Fn P w K mg base 1 "_law_form" ["_law_flags_here"] spFo
  shown : Fn P w K mg base 3 "_law_shown" ["_law_circle_here"] (spShown C)
  both : Fn P w K mg base 9 "both" ["one", "other"] (spTw T C fun a b => a && b)
  bothK : FnW P w K mg base 9 "both" ["one", "other"] ["other", "one"] K67R.gTwo K67R.gTwoV (spTw T C fun a b => a && b)
  either : Fn P w K mg base 9 "either" ["one", "other"] (spTw T C fun a b => a || b)
  eitherK : FnW P w K mg base 9 "either" ["one", "other"] ["other", "one"] K67R.gTwo K67R.gTwoV (spTw T C fun a b => a || b)
  without : Fn P w K mg base 9 "without" ["one", "other"] (spTw T C fun a b => a && !b)
  withoutK : FnW P w K mg base 9 "without" ["one", "other"] ["other", "one"] K67R.gTwo K67R.gTwoV (spTw T C fun a b => a && !b)
  rest : Fn P w K mg base 8 "rest_of" ["one"] (spRe C)
  restK : FnW P w K mg base 8 "rest_of" ["one"] ["one"] K67R.gOne K67R.gOneV (spRe C)
  within : Fn P w K mg base 5 "is_within" ["one", "other"] (spWi T C)
  withinK : FnW P w K mg base 5 "is_within" ["one", "other"] ["other", "one"] K67R.gTwo K67R.gTwoV (spWi T C)
  first : Fn P w K mg base 5 "first_apart" ["one", "other"] (spAp T C)
  firstK : FnW P w K mg base 5 "first_apart" ["one", "other"] ["other", "one"] K67R.gTwo K67R.gTwoV (spAp T C)
  of : Fn P w K mg base 7 "circle_of" ["values"] (spOf C)
abbrev nPr : List Str := ["_law_c", "_law_d", "_law_mine", "_law_mate", "_law_near", "_law_far", "_law_due", "_law_x", "_law_each"]
theorem scPr : FnScope nPr ["_law_c", "_law_d"] (defScope (topS 47)) := ⟨rfl, rfl, rfl, by decide +kernel, rfl, by decide +kernel, by decide +kernel⟩
/-- two drawn tuples -/
structure TwoD (T : List (Addr × Str)) (H : Hp) (c d : Addr) (G D : Frm) : Prop where
  c : DrAt H c G
  d : DrAt H d D
  gc : GoodD G
  gd : GoodD D
  m : ∃ M, 0 < M ∧ M ≤ 30 ∧ G.base ∣ M ∧ D.base ∣ M
  tb : Tabs T H
def spPr (T : List (Addr × Str)) : Sp := fun vs H Q _ => ∃ (c d : Addr) (G D : Frm), vs = [.ref c, .ref d] ∧ TwoD T H c d G D ∧ ∀ H', ExtN H H' → Tabs T H' → Q (.bl true) H'
theorem TwoD.per {T : List (Addr × Str)} {H : Hp} {c d : Addr} {G D : Frm} (h : TwoD T H c d G D) : ∃ M, 0 < M ∧ M ≤ 30 ∧ Per (dr G) 6 M ∧ Per (dr D) 6 M := by
  obtain ⟨M, m0, m1, d1, d2⟩ := h.m
  exact ⟨M, m0, m1, h.gc.pre.per.dvd h.gc.s1 d1, h.gd.pre.per.dvd h.gd.s1 d2⟩
theorem ok_pr {f : Addr} {fd : FuncData} (F : Fun K "_law_pair_right" "_law_pair_right" (topS 47) f fd) (B : Bt mg) (S : Calls P w K mg base C T) (EQ : Eqs P w K mg base C) : FnOk P w K mg base CX0 10 f fd ["_law_c", "_law_d"] (spPr T) := by
  refine F.ok scPr (fun vs H Q E h => ?_) (fun cdv A outer sh H vs Q E hr h => ?_)
  · obtain ⟨c, d, G, D, rfl, _⟩ := h
    rfl
  · obtain ⟨c, d, G, D, rfl, hD, q⟩ := h
    have h8 : Room 8 (cxOf CX0 P w K mg base nPr "_law_pair_right" (defScope (topS 47)) f cdv A outer sh H E).nox.A := hr.mono (by decide)
    have h6 : Room 6 (cxOf CX0 P w K mg base nPr "_law_pair_right" (defScope (topS 47)) f cdv A outer sh H E).nox.A := hr.mono (by decide)
    have h3 : Room 3 (cxOf CX0 P w K mg base nPr "_law_pair_right" (defScope (topS 47)) f cdv A outer sh H E).nox.A := hr.mono (by decide)
    have h2 : Room 2 (cxOf CX0 P w K mg base nPr "_law_pair_right" (defScope (topS 47)) f cdv A outer sh H E).nox.A := hr.mono (by decide)
    have h1 : Room 1 (cxOf CX0 P w K mg base nPr "_law_pair_right" (defScope (topS 47)) f cdv A outer sh H E).nox.A := hr.mono (by decide)
    refine ⟨_, Evl.pss_cut (ps_asg (pe_tup (pa_cons (pe_fn S.circle h6 (by rfl) (pa_cons (pv 0) pa_nil)) (pa_cons (pe_fn S.circle h6 (by rfl) (pa_cons (pv 1) pa_nil)) (pa_cons (pe_fn S.flags h2 (by rfl) (pa_cons (pv 0) (pa_cons pe_int pa_nil))) (pa_cons (pe_fn S.flags h2 (by rfl) (pa_cons (pv 1) (pa_cons pe_int pa_nil))) pa_nil)))))
          (pg_tup rfl (pgs_cons (pg_name (i := 2) scPr.nd rfl (.inl rfl)) (pgs_cons (pg_name (i := 3) scPr.nd rfl (.inl rfl)) (pgs_cons (pg_name (i := 4) scPr.nd rfl (.inr rfl)) (pgs_cons (pg_name (i := 5) scPr.nd rfl (.inr rfl)) pgs_nil))))))
      (pss_cons (ps_set (i := 6) scPr.nd rfl (.inl rfl) (pe_fn S.form h1 (by rfl) (pa_cons
        (pe_lc (own := [("_law_x", 7)]) (g := gName 7) (tt := tYes) rfl scPr.nd (pi_range1 (by rfl) B.range (pa_cons pe_int pa_nil)) (blkOk_by (N := nPr) (sc := defScope (topS 47)) (by decide +kernel)) (fun _ _ _ _ _ => pg_name (i := 7) scPr.nd rfl (.inl rfl)) (fun _ _ _ _ _ => pts_nil)
          (fun _ _ _ _ _ => pe_and (pe_ix (r := rIxL K) ix_list (pv 4) (pv 7) (fun _ _ => rfl)) (pe_one (pe_ix (r := rIxL K) ix_list (pv 5) (pv 7) (fun _ _ => rfl))))) pa_nil)))
      (Evl.pss_cut (ps_if (pt_cmpR (op_neD hr.units) (pe_lst (pa_cons (pe_fn S.shown h3 (by rfl) (pa_cons (pe_fn S.both hr (by rfl) (pa_cons (pv 2) (pa_cons (pv 3) pa_nil))) pa_nil)) (pa_cons (pe_fn S.shown h3 (by rfl) (pa_cons (pe_fnW S.bothK hr (by rfl) (pk_cons (pv 3) (pk_cons (pv 2) pk_nil))) pa_nil)) pa_nil)))
          (pe_lst (pa_cons (pv 6) (pa_cons (pv 6) pa_nil))) (nomark _)) (pss_one ps_never) pss_nil)
      (pss_cons (ps_set (i := 6) scPr.nd rfl (.inl rfl) (pe_fn S.form h1 (by rfl) (pa_cons
        (pe_lc (own := [("_law_x", 7)]) (g := gName 7) (tt := tYes) rfl scPr.nd (pi_range1 (by rfl) B.range (pa_cons pe_int pa_nil)) (blkOk_by (N := nPr) (sc := defScope (topS 47)) (by decide +kernel)) (fun _ _ _ _ _ => pg_name (i := 7) scPr.nd rfl (.inl rfl)) (fun _ _ _ _ _ => pts_nil)
          (fun _ _ _ _ _ => pe_or (pe_ix (r := rIxL K) ix_list (pv 4) (pv 7) (fun _ _ => rfl)) (pe_one (pe_ix (r := rIxL K) ix_list (pv 5) (pv 7) (fun _ _ => rfl))))) pa_nil)))
      (Evl.pss_cut (ps_if (pt_cmpR (op_neD hr.units) (pe_lst (pa_cons (pe_fn S.shown h3 (by rfl) (pa_cons (pe_fn S.either hr (by rfl) (pa_cons (pv 2) (pa_cons (pv 3) pa_nil))) pa_nil)) (pa_cons (pe_fn S.shown h3 (by rfl) (pa_cons (pe_fnW S.eitherK hr (by rfl) (pk_cons (pv 3) (pk_cons (pv 2) pk_nil))) pa_nil)) pa_nil)))
          (pe_lst (pa_cons (pv 6) (pa_cons (pv 6) pa_nil))) (nomark _)) (pss_one ps_never) pss_nil)
      (pss_cons (ps_set (i := 6) scPr.nd rfl (.inl rfl) (pe_fn S.form h1 (by rfl) (pa_cons
        (pe_lc (own := [("_law_x", 7)]) (g := gName 7) (tt := tYes) rfl scPr.nd (pi_range1 (by rfl) B.range (pa_cons pe_int pa_nil)) (blkOk_by (N := nPr) (sc := defScope (topS 47)) (by decide +kernel)) (fun _ _ _ _ _ => pg_name (i := 7) scPr.nd rfl (.inl rfl)) (fun _ _ _ _ _ => pts_nil)
          (fun _ _ _ _ _ => pe_and (pe_ix (r := rIxL K) ix_list (pv 4) (pv 7) (fun _ _ => rfl)) (pe_one (pe_not (pe_ix (r := rIxL K) ix_list (pv 5) (pv 7) (fun _ _ => rfl)))))) pa_nil)))
      (Evl.pss_cut (ps_if (pt_cmpR (op_neD hr.units) (pe_lst (pa_cons (pe_fn S.shown h3 (by rfl) (pa_cons (pe_fn S.without hr (by rfl) (pa_cons (pv 2) (pa_cons (pv 3) pa_nil))) pa_nil)) (pa_cons (pe_fn S.shown h3 (by rfl) (pa_cons (pe_fnW S.withoutK hr (by rfl) (pk_cons (pv 3) (pk_cons (pv 2) pk_nil))) pa_nil)) pa_nil)))
          (pe_lst (pa_cons (pv 6) (pa_cons (pv 6) pa_nil))) (nomark _)) (pss_one ps_never) pss_nil)
      (pss_cons (ps_set (i := 6) scPr.nd rfl (.inl rfl) (pe_fn S.form h1 (by rfl) (pa_cons
        (pe_lc (own := [("_law_each", 8)]) (g := gName 8) (tt := tYes) rfl scPr.nd (pi_list (pv 4)) (blkOk_by (N := nPr) (sc := defScope (topS 47)) (by decide +kernel)) (fun _ _ _ _ _ => pg_name (i := 8) scPr.nd rfl (.inl rfl)) (fun _ _ _ _ _ => pts_nil)
          (fun _ _ _ _ _ => pe_not (pv 8))) pa_nil)))
      (Evl.pss_cut (ps_if (pt_cmpR (op_neD hr.units) (pe_lst (pa_cons (pe_fn S.shown h3 (by rfl) (pa_cons (pe_fn S.rest h8 (by rfl) (pa_cons (pv 2) pa_nil)) pa_nil)) (pa_cons (pe_fn S.shown h3 (by rfl) (pa_cons (pe_fnW S.restK h8 (by rfl) (pk_cons (pv 2) pk_nil)) pa_nil)) pa_nil)))
          (pe_lst (pa_cons (pv 6) (pa_cons (pv 6) pa_nil))) (nomark _)) (pss_one ps_never) pss_nil)
      (Evl.pss_cut (ps_if (pt_cmpR (op_neC EQ h2) (pe_fn S.rest h8 (by rfl) (pa_cons (pe_fn S.either hr (by rfl) (pa_cons (pv 2) (pa_cons (pv 3) pa_nil))) pa_nil)) (pe_fn S.both hr (by rfl) (pa_cons (pe_fn S.rest h8 (by rfl) (pa_cons (pv 2) pa_nil)) (pa_cons (pe_fn S.rest h8 (by rfl) (pa_cons (pv 3) pa_nil)) pa_nil))) (nomark _)) (pss_one ps_never) pss_nil)
      (pss_one (ps_ret (pe_and (pe_cmpR (op_eqC EQ h1) (pe_fn S.rest h8 (by rfl) (pa_cons (pe_fn S.rest h8 (by rfl) (pa_cons (pv 2) pa_nil)) pa_nil)) (pv 2) (nomark _))
        (pe_one (pe_cmpR (op_eqC EQ h1) (pe_fn S.without hr (by rfl) (pa_cons (pv 2) (pa_cons (pv 3) pa_nil))) (pe_fn S.both hr (by rfl) (pa_cons (pv 2) (pa_cons (pe_fn S.rest h8 (by rfl) (pa_cons (pv 3) pa_nil)) pa_nil))) (nomark _))))))))))))))), ?_⟩
    obtain ⟨M, m0, m1, pu, pv'⟩ := hD.per
    have gcb := hD.gc.b0
    have gdb := hD.gd.b0
    refine ⟨fun σ' H' => ∃ (a b ln lf : Addr) (x6 : Option V), σ' = [some (.ref c), some (.ref d), some (.ref a), some (.ref b), some (.ref ln), some (.ref lf), x6, none, none] ∧ PF T C H a b ln lf (dr G) (dr D) H', ?_, ?_⟩
    · refine ⟨_, rfl, c, G, rfl, hD.c, hD.gc, fun a H1 e1 ca => ?_⟩
      refine ⟨_, rfl, d, D, rfl, hD.d.ex e1, hD.gd, fun b H2 e2 cb => ?_⟩
      have e12 := e1.trans e2
      refine ⟨_, rfl, c, G, 130, rfl, hD.c.ex e12, gcb, by decide, fun ln H3 e3 hn => ?_⟩
      refine ⟨_, rfl, d, D, 130, rfl, (hD.d.ex e12).ex e3, gdb, by decide, fun lf H4 e4 hf => ?_⟩
      refine ⟨(by show 4 ≤ sizeLine; decide), fun t nt => ?_⟩
      have e5 := Ex.new (o := .tup [.ref a, .ref b, .ref ln, .ref lf]) nt
      have e15 := ((e12.trans e3).trans e4).trans e5
      refine ⟨t, _, rfl, st_of upd_same, rfl, _, _, rfl, _, _, rfl, _, _, rfl, _, _, rfl, rfl, ?_⟩
      exact ⟨a, b, ln, lf, none, rfl, ⟨⟨(ca.ex e2).ex ((e3.trans e4).trans e5), cb.ex ((e3.trans e4).trans e5), M, m0, m1, pu, pv'⟩, e5 _ _ (e4 _ _ hn), e5 _ _ hf, hD.tb.ext e15, .of e15⟩⟩
    · rintro σ1 H1 ⟨a, b, ln, lf, x6, rfl, h⟩
      -- both
      refine due_two (f := fun x => dr G x && dr D x) (L := M) h m0 m1 (pu.map2 (fun a b => a && b) pv') (fun n H hn hh Q z => ?_) (fun t Fm H2 h2 ft hF => ?_)
      · refine ⟨_, rfl, _, rfl, ln, _, _, _, rfl, rfl, sq_of hh.near, atI_nat (bv_at hn), ?_⟩
        cases hu : dr G n with
        | false =>
          rw [hu] at z
          exact ⟨_, rfl, itF rfl z⟩
        | true =>
          rw [hu] at z
          exact ⟨_, rfl, itT rfl ⟨_, rfl, _, rfl, lf, _, _, _, rfl, rfl, sq_of hh.far, atI_nat (bv_at hn), z⟩⟩
      refine ⟨fun σ' H' => ∃ (x6 : Option V), σ' = [some (.ref c), some (.ref d), some (.ref a), some (.ref b), some (.ref ln), some (.ref lf), x6, none, none] ∧ PF T C H a b ln lf (dr G) (dr D) H', cmp_two (g := fun a b => a && b) h2 rfl rfl rfl ft hF (fun H3 h3 => itF rfl ⟨_, rfl, h3⟩), ?_⟩
      rintro σ1 H1 ⟨x6, rfl, h⟩
      -- either
      refine due_two (f := fun x => dr G x || dr D x) (L := M) h m0 m1 (pu.map2 (fun a b => a || b) pv') (fun n H hn hh Q z => ?_) (fun t Fm H2 h2 ft hF => ?_)
      · refine ⟨_, rfl, _, rfl, ln, _, _, _, rfl, rfl, sq_of hh.near, atI_nat (bv_at hn), ?_⟩
        cases hu : dr G n with
        | false =>
          rw [hu] at z
          exact ⟨_, rfl, itF rfl ⟨_, rfl, _, rfl, lf, _, _, _, rfl, rfl, sq_of hh.far, atI_nat (bv_at hn), z⟩⟩
        | true =>
          rw [hu] at z
          exact ⟨_, rfl, itT rfl z⟩
      refine ⟨fun σ' H' => ∃ (x6 : Option V), σ' = [some (.ref c), some (.ref d), some (.ref a), some (.ref b), some (.ref ln), some (.ref lf), x6, none, none] ∧ PF T C H a b ln lf (dr G) (dr D) H', cmp_two (g := fun a b => a || b) h2 rfl rfl rfl ft hF (fun H3 h3 => itF rfl ⟨_, rfl, h3⟩), ?_⟩
      rintro σ1 H1 ⟨x6, rfl, h⟩
      -- without
      refine due_two (f := fun x => dr G x && !dr D x) (L := M) h m0 m1 (pu.map2 (fun a b => a && !b) pv') (fun n H hn hh Q z => ?_) (fun t Fm H2 h2 ft hF => ?_)
      · refine ⟨_, rfl, _, rfl, ln, _, _, _, rfl, rfl, sq_of hh.near, atI_nat (bv_at hn), ?_⟩
        cases hu : dr G n with
        | false =>
          rw [hu] at z
          exact ⟨_, rfl, itF rfl z⟩
        | true =>
          rw [hu] at z
          exact ⟨_, rfl, itT rfl ⟨_, rfl, _, rfl, lf, _, _, _, rfl, rfl, sq_of hh.far, atI_nat (bv_at hn), _, rfl, z⟩⟩
      refine ⟨fun σ' H' => ∃ (x6 : Option V), σ' = [some (.ref c), some (.ref d), some (.ref a), some (.ref b), some (.ref ln), some (.ref lf), x6, none, none] ∧ PF T C H a b ln lf (dr G) (dr D) H', cmp_two (g := fun a b => a && !b) h2 rfl rfl rfl ft hF (fun H3 h3 => itF rfl ⟨_, rfl, h3⟩), ?_⟩
      rintro σ1 H1 ⟨x6, rfl, h⟩
      -- rest_of
      refine ⟨_, rfl, ln, rfl, ⟨_, sq_of h.near⟩, fun L nL => lc_any (n := 130) (Y := fun i => .bl (dr G i)) (fun i H2 => Ex H1 H2 ∧ H2 L = some (.lst (bv (fun x => !dr G x) i)))
        (fun i H2 hi ⟨e2, _⟩ => ⟨_, _, sq_of (e2 _ _ h.near), bv_at hi⟩) (fun H2 ⟨e2, _⟩ => ⟨_, sq_of (e2 _ _ h.near), by rw [bv_len]; exact Nat.le_refl _⟩) (fun i H2 x H' hi ⟨e2, _⟩ y => ⟨y.1, ?_⟩) ⟨Ex.new nL, upd_same⟩ (fun i H2 hi ⟨e2, hL⟩ => ?_) (fun H2 ⟨e2, hL⟩ => ?_)⟩
      · have z := y.2 _ (sq_of (e2 _ _ h.near))
        rw [bv_at hi] at z
        exact (Option.some.inj z).symm
      · refine ⟨rfl, yes_of ?_⟩
        refine ⟨_, rfl, _, rfl, _, hL, ?_, e2.mut nL, ?_⟩
        · rw [bv_len]
          exact small1000 (by omega)
        · rw [upd_same, bv_take hi]
      have pn : Per (fun x => !dr G x) 6 M := fun x hx => by
        show (!dr G (x + M)) = !dr G x
        rw [pu x hx]
      refine ⟨L, fun x => !dr G x, M, rfl, hL, m0, m1, pn, fun t Fm H3 e3 ft hF => ?_⟩
      have h3 := (h.ex e2).ex e3
      refine ⟨fun σ' H' => ∃ (x6 : Option V), σ' = [some (.ref c), some (.ref d), some (.ref a), some (.ref b), some (.ref ln), some (.ref lf), x6, none, none] ∧ PF T C H a b ln lf (dr G) (dr D) H', cmp_one h3 rfl rfl ft hF (fun H4 h4 => itF rfl ⟨_, rfl, h4⟩), ?_⟩
      rintro σ1 H1 ⟨x6, rfl, h⟩
      -- rest_of(either) != both(rest_of, rest_of)
      refine ⟨fun σ' H' => ∃ (x6 : Option V), σ' = [some (.ref c), some (.ref d), some (.ref a), some (.ref b), some (.ref ln), some (.ref lf), x6, none, none] ∧ PF T C H a b ln lf (dr G) (dr D) H', ?_, ?_⟩
      · refine ⟨_, rfl, _, rfl, a, b, dr G, dr D, rfl, h.tw, h.tb, fun r1 H2 e2 t2 c1 => ?_⟩
        have h2 := h.to e2 t2
        refine ⟨r1, _, M, rfl, c1, m0, m1, pu.map2 (fun a b => a || b) pv', fun r2 H3 e3 c2 => ?_⟩
        have h3 := h2.ex e3
        refine ⟨_, rfl, a, dr G, M, rfl, h3.tw.1, m0, m1, pu, fun r3 H4 e4 c3 => ?_⟩
        have h4 := h3.ex e4
        refine ⟨_, rfl, b, dr D, M, rfl, h4.tw.2.1, m0, m1, pv', fun r4 H5 e5 c4 => ?_⟩
        have h5 := h4.ex e5
        have pn' : Per (fun x => !dr D x) 6 M := fun x hx => by
          show (!dr D (x + M)) = !dr D x
          rw [pv' x hx]
        refine ⟨r3, r4, _, _, rfl, ⟨c3.ex e5, c4, M, m0, m1, pn, pn'⟩, h5.tb, fun r5 H6 e6 t6 c5 => ?_⟩
        have h6 := h5.to e6 t6
        refine own_eq (((c2.ex e4).ex e5).keep e6) c5 fun r hr => ?_
        have hrt : r = true := hr.mpr (funext fun x => by cases dr G x <;> cases dr D x <;> rfl)
        rw [hrt]
        exact ⟨_, rfl, itF rfl ⟨_, rfl, h6⟩⟩
      · rintro σ1 H1 ⟨x6, rfl, h⟩
        refine ⟨_, rfl, a, dr G, M, rfl, h.tw.1, m0, m1, pu, fun r1 H2 e2 c1 => ?_⟩
        have h2 := h.ex e2
        refine ⟨r1, _, M, rfl, c1, m0, m1, pn, fun r2 H3 e3 c2 => ?_⟩
        have h3 := h2.ex e3
        refine ⟨_, rfl, own_eq c2 h3.tw.1 fun r hr => ?_⟩
        have hrt : r = true := hr.mpr (funext fun x => by
          show (!!dr G x) = dr G x
          rw [Bool.not_not])
        rw [hrt]
        refine ⟨_, rfl, itT rfl ?_⟩
        refine ⟨_, rfl, _, rfl, a, b, dr G, dr D, rfl, h3.tw, h3.tb, fun r3 H4 e4 t4 c3 => ?_⟩
        have h4 := h3.to e4 t4
        refine ⟨_, rfl, _, rfl, b, dr D, M, rfl, h4.tw.2.1, m0, m1, pv', fun r4 H5 e5 c4 => ?_⟩
        have h5 := h4.ex e5
        have pn' : Per (fun x => !dr D x) 6 M := fun x hx => by
          show (!dr D (x + M)) = !dr D x
          rw [pv' x hx]
        refine ⟨a, r4, _, _, rfl, ⟨h5.tw.1, c4, M, m0, m1, pu, pn'⟩, h5.tb, fun r5 H6 e6 t6 c5 => ?_⟩
        have h6 := h5.to e6 t6
        refine own_eq ((c3.ex e5).keep e6) c5 fun r hr => ?_
        have hrt : r = true := hr.mpr rfl
        rw [hrt]
        exact q _ h6.ext h6.tb
end
end K67
set_option Elab.async false
set_option linter.all false
set_option maxRecDepth 100000
set_option maxHeartbeats 8000000
namespace K67
open PySem L2 Evl LamX
theorem Fun.okG {P : Program} {w : World} {K : PySem.W.Frag} {mg : Str → Option Value} {base : Heap} {x qual : Str} {st : Stmt} {f : Addr} {fd : FuncData} {N ps : List Str} {k : Nat} {sp : Sp} (F : Fun K x qual st f fd) (S : FnScope N ps (defScope st)) (len : ∀ vs H Q E, sp vs H Q E → vs.length = ps.length)
    (hbody : ∀ (cdv : Value) (A : Around) (outer : List Env) (s : Shared) (H : Hp) (vs : List V) (Q : VK), Room k (A.deeper (PyProof.Rows.envOfC qual (defScope st) s.heap.objs.size f cdv)) → (A.deeper (PyProof.Rows.envOfC qual (defScope st) s.heap.objs.size f cdv)).guards = some [] → sp vs H Q E0 →
      ∃ t, PSs (cxOf CX0 P w K mg base N qual (defScope st) f cdv A outer s H E0).nox (defBody st) t ∧ t { nx := fun _ H' => Q .non H', rt := Q } (start N vs) H) : K67R.FnG P w K mg base (k + 1) f fd ps sp := by
  obtain ⟨oc, od, kV, doc, pm, an, cdv, ct, osl, rfl, lk, hcd⟩ := F.ex
  refine K67R.fnG_of lk hcd S len fun A outer s H vs Q hr hg hsp => ?_
  obtain ⟨t, h, q⟩ := hbody cdv A outer s H vs Q hr hg hsp
  exact ⟨t, h.nox, q⟩
structure Gn (P : Program) (w : World) (K : PySem.W.Frag) (mg : Str → Option Value) (base : Heap) (k : Nat) (x : Str) (ps : List Str) (sp : Sp) : Prop where
  ex : ∃ f fd, K67R.FnG P w K mg base k f fd ps sp ∧ mg x = some (.ref f) ∧ PySem.W.keepIn K (.ref f) = true ∧ L2.Binds K fd ps []
theorem pe_gn {X : Cx} {k : Nat} {ps : List Str} {sp : Sp} {x : Str} {p pos : Pos} {e : Expr} {es : List Expr} {t : TA} (G : Gn X.prog X.w X.K X.mg X.base k x ps sp) (hr : Room k X.A) (hG : X.A.guards = some []) (hg : Gl X x) (ha : PA X (e :: es) t) (hdb : (x == ("__debug__" : Str)) = false := by decide)
    (he : starEach (e :: es) X.env = (false, eval e X.env) :: starEach es X.env := by rfl) (hpl : (backTo pos (starEach es X.env)).any (·.1) = false := by rfl) :
    PE X (.Call (.Name x p) (e :: es) [] pos) (tCall sp [] E0 t) := by
  obtain ⟨f, fd, F, hm, hk, hb⟩ := G.ex
  exact K67R.pe_callG F hr hG hg hm hk hb ha hdb he hpl
/-! ### lists of numbers as data -/
theorem listD_ok (l : List Nat) : SeqAt.shaped (.list (intsD l)) = true := by
  obtain ⟨h1, h2⟩ := intsD_lay l
  unfold SeqAt.shaped
  have e1 : (PyData.list (intsD l)).canLay0 = true := h1
  have e2 : (PyData.list (intsD l)).depth ≤ 64 := by
    show PyData.depthAll (intsD l) + 1 ≤ 64
    rw [h2]
    decide
  rw [e1, decide_eq_true e2]
  rfl
theorem listD_nil (l : List Nat) : PyData.eqv (.list (intsD l)) (.list (intsD [])) = decide (l = []) := by
  have h : PyData.eqvAll (intsD l) (intsD []) = true ↔ l = [] := intsD_eq l []
  show PyData.eqvAll (intsD l) (intsD []) = _
  rw [Bool.eq_iff_iff, h, decide_eq_true_iff]
theorem dp_listI {K : PySem.W.Frag} {H : Hp} {a : Addr} {l : List Nat} (h : H a = some (.lst (iv l))) : Dp K H (.ref a) (.list (intsD l)) := .lst (sq_of h) (dp_ints l)
theorem first_uniq {f : Nat → Bool} {r s : V} (h : First f r) (k : First f s) : r = s := by
  rcases h with ⟨rfl, h⟩ | ⟨a, rfl, _, h1, h2⟩ <;> rcases k with ⟨rfl, k⟩ | ⟨b, rfl, _, k1, k2⟩
  · rfl
  · rw [h b] at k1
    cases k1
  · rw [k a] at h1
    cases h1
  · rcases Nat.lt_trichotomy a b with z | z | z
    · rw [k2 a z] at h1
      cases h1
    · rw [z]
    · rw [h2 b z] at k1
      cases k1
theorem first_head {f : Nat → Bool} {n k : Nat} (hk : k < n) (h1 : f k = true) (h2 : ∀ x, x < k → f x = false) : ((List.range n).filter f)[0]? = some k := by
  have hm : k ∈ (List.range n).filter f := List.mem_filter.mpr ⟨List.mem_range.mpr hk, h1⟩
  have hs := range_strict n f
  cases e : (List.range n).filter f with
  | nil =>
    rw [e] at hm
    cases hm
  | cons a r =>
    have ha : f a = true := (List.mem_filter.mp (show a ∈ (List.range n).filter f by rw [e]; exact List.mem_cons_self)).2
    rw [e] at hm hs
    show some a = some k
    rcases List.mem_cons.mp hm with z | z
    · rw [z]
    · have hak := (List.pairwise_cons.mp hs).1 k z
      rw [h2 a hak] at ha
      cases ha
theorem filt_nil {f : Nat → Bool} {M : Nat} (h : Per f 6 M) (m0 : 0 < M) (m1 : M ≤ 30) : (List.range 130).filter f = [] ↔ ∀ x, f x = false := by
  rw [List.filter_eq_nil_iff]
  constructor
  · intro z x
    cases hx : f x with
    | false => rfl
    | true =>
      obtain ⟨y, hy, hy2⟩ := per_bound (m := 130) h m0 (by omega) hx
      exact absurd hy2 (z y (List.mem_range.mpr hy))
  · intro z x _
    rw [z x]
    decide
section
variable {P : Program} {w : World} {K : PySem.W.Frag} {mg : Str → Option Value} {base : Heap} {C : Addr} {T : List (Addr × Str)}
abbrev nOr : List Str := ["_law_c", "_law_d", "_law_mine", "_law_mate", "_law_near", "_law_far", "_law_due", "_law_some", "_law_spot", "_law_x"]
theorem scOr : FnScope nOr ["_law_c", "_law_d"] (defScope (topS 48)) := ⟨rfl, rfl, rfl, by decide +kernel, rfl, by decide +kernel, by decide +kernel⟩
theorem ok_or {f : Addr} {fd : FuncData} (F : Fun K "_law_order_right" "_law_order_right" (topS 48) f fd) (B : Bt mg) (S : Calls P w K mg base C T) (EQ : Eqs P w K mg base C) : K67R.FnG P w K mg base 10 f fd ["_law_c", "_law_d"] (spPr T) := by
  refine Fun.okG F scOr (fun vs H Q E h => ?_) (fun cdv A outer sh H vs Q hr hG h => ?_)
  · obtain ⟨c, d, G, D, rfl, _⟩ := h
    rfl
  · obtain ⟨c, d, G, D, rfl, hD, q⟩ := h
    have h7 : Room 7 (cxOf CX0 P w K mg base nOr "_law_order_right" (defScope (topS 48)) f cdv A outer sh H E0).nox.A := hr.mono (by decide)
    have h6 : Room 6 (cxOf CX0 P w K mg base nOr "_law_order_right" (defScope (topS 48)) f cdv A outer sh H E0).nox.A := hr.mono (by decide)
    have h5 : Room 5 (cxOf CX0 P w K mg base nOr "_law_order_right" (defScope (topS 48)) f cdv A outer sh H E0).nox.A := hr.mono (by decide)
    have h2 : Room 2 (cxOf CX0 P w K mg base nOr "_law_order_right" (defScope (topS 48)) f cdv A outer sh H E0).nox.A := hr.mono (by decide)
    have h1 : Room 1 (cxOf CX0 P w K mg base nOr "_law_order_right" (defScope (topS 48)) f cdv A outer sh H E0).nox.A := hr.mono (by decide)
    have hGx : (cxOf CX0 P w K mg base nOr "_law_order_right" (defScope (topS 48)) f cdv A outer sh H E0).nox.A.guards = some [] := hG
    refine ⟨_, Evl.pss_cut (ps_asg (pe_tup (pa_cons (pe_fn S.circle h6 (by rfl) (pa_cons (pv 0) pa_nil)) (pa_cons (pe_fn S.circle h6 (by rfl) (pa_cons (pv 1) pa_nil)) (pa_cons (pe_fn S.flags h2 (by rfl) (pa_cons (pv 0) (pa_cons pe_int pa_nil))) (pa_cons (pe_fn S.flags h2 (by rfl) (pa_cons (pv 1) (pa_cons pe_int pa_nil))) pa_nil)))))
          (pg_tup rfl (pgs_cons (pg_name (i := 2) scOr.nd rfl (.inl rfl)) (pgs_cons (pg_name (i := 3) scOr.nd rfl (.inl rfl)) (pgs_cons (pg_name (i := 4) scOr.nd rfl (.inr rfl)) (pgs_cons (pg_name (i := 5) scOr.nd rfl (.inr rfl)) pgs_nil))))))
      (Evl.pss_cut (ps_set (i := 6) scOr.nd rfl (.inl rfl) (pe_cmpR (op_eqD hr.units)
        (pe_lc (own := [("_law_x", 9)]) (g := gName 9) (te := tVar 9) rfl scOr.nd (pi_range1 (by rfl) B.range (pa_cons pe_int pa_nil)) (blkOk_by (N := nOr) (sc := defScope (topS 48)) (by decide +kernel)) (fun _ _ _ _ _ => pg_name (i := 9) scOr.nd rfl (.inl rfl))
          (fun _ _ _ _ _ => pts_one (PW.pt (pw_and (pt_val (pe_ix (r := rIxL K) ix_list (pv 4) (pv 9) (fun _ _ => rfl))) (pw_and1 (pt_not (pt_val (pe_ix (r := rIxL K) ix_list (pv 5) (pv 9) (fun _ _ => rfl)))))))) (fun _ _ _ _ _ => pv 9))
        (pe_lst pa_nil) (nomark _)))
      (Evl.pss_cut (ps_if (pt_cmpR op_ne (pe_callB (K67R.call_rep2 hGx h1) (by rfl) B.repr (by decide +kernel) (pa_cons (pe_lst (pa_cons (pe_fn S.within h5 (by rfl) (pa_cons (pv 2) (pa_cons (pv 3) pa_nil))) (pa_cons (pe_fnW S.withinK h5 (by rfl) (pk_cons (pv 3) (pk_cons (pv 2) pk_nil))) pa_nil))) pa_nil))
          (pe_callB (K67R.call_rep2 hGx h1) (by rfl) B.repr (by decide +kernel) (pa_cons (pe_lst (pa_cons (pv 6) (pa_cons (pv 6) pa_nil))) pa_nil)) (nomark _)) (pss_one ps_never) pss_nil)
      (Evl.pss_cut (ps_if (pt_cmpR op_ne (pv 6) (pe_cmpR (op_eqC EQ h1) (pe_fn S.without hr (by rfl) (pa_cons (pv 2) (pa_cons (pv 3) pa_nil))) (pe_fn S.of h7 (by rfl) (pa_cons (pe_tup pa_nil) pa_nil)) (nomark _)) (nomark _)) (pss_one ps_never) pss_nil)
      (pss_cons (ps_setLc (i := 7) (own := [("_law_x", 9)]) (g := gName 9) (te := tVar 9) rfl scOr.nd rfl rfl (sw_true rfl rfl rfl (by decide +kernel)) (pi_range1 (by rfl) B.range (pa_cons pe_int pa_nil)) (blkOk_by (N := nOr) (sc := defScope (topS 48)) (by decide +kernel)) (fun _ _ _ _ _ => pg_name (i := 9) scOr.nd rfl (.inl rfl))
          (fun _ _ _ _ _ => pts_one (pt_cmpR op_ne (pe_ix (r := rIxL K) ix_list (pv 4) (pv 9) (fun _ _ => rfl)) (pe_ix (r := rIxL K) ix_list (pv 5) (pv 9) (fun _ _ => rfl)) (nomark _))) (fun _ _ _ _ _ => pv 9))
      (Evl.pss_cut (ps_set (i := 8) scOr.nd rfl (.inl rfl) (pe_ifExp (pt_cmpR (op_neD hr.units) (pv 7) (pe_lst pa_nil) (nomark _)) (pe_ix ix_list (pv 7) pe_int (fun _ _ => rfl)) pe_non))
      (pss_one (ps_ret (pe_cmpR op_eq (pe_callB (K67R.call_rep2 hGx h1) (by rfl) B.repr (by decide +kernel) (pa_cons (pe_lst (pa_cons (pe_fn S.first h5 (by rfl) (pa_cons (pv 2) (pa_cons (pv 3) pa_nil))) (pa_cons (pe_fnW S.firstK h5 (by rfl) (pk_cons (pv 3) (pk_cons (pv 2) pk_nil))) pa_nil))) pa_nil))
          (pe_callB (K67R.call_rep2 hGx h1) (by rfl) B.repr (by decide +kernel) (pa_cons (pe_lst (pa_cons (pv 8) (pa_cons (pv 8) pa_nil))) pa_nil)) (nomark _))))))))), ?_⟩
    obtain ⟨M, m0, m1, pu, pv'⟩ := hD.per
    have gcb := hD.gc.b0
    have gdb := hD.gd.b0
    have hper := pu.map2 (fun a b => a && !b) pv'
    have hnil := filt_nil hper m0 m1
    refine ⟨fun σ' H' => ∃ (a b ln lf : Addr), σ' = [some (.ref c), some (.ref d), some (.ref a), some (.ref b), some (.ref ln), some (.ref lf), none, none, none, none] ∧ PF T C H a b ln lf (dr G) (dr D) H', ?_, ?_⟩
    · refine ⟨_, rfl, c, G, rfl, hD.c, hD.gc, fun a H1 e1 ca => ?_⟩
      refine ⟨_, rfl, d, D, rfl, hD.d.ex e1, hD.gd, fun b H2 e2 cb => ?_⟩
      have e12 := e1.trans e2
      refine ⟨_, rfl, c, G, 130, rfl, hD.c.ex e12, gcb, by decide, fun ln H3 e3 hn => ?_⟩
      refine ⟨_, rfl, d, D, 130, rfl, (hD.d.ex e12).ex e3, gdb, by decide, fun lf H4 e4 hf => ?_⟩
      refine ⟨(by show 4 ≤ sizeLine; decide), fun t nt => ?_⟩
      have e5 := Ex.new (o := .tup [.ref a, .ref b, .ref ln, .ref lf]) nt
      have e15 := ((e12.trans e3).trans e4).trans e5
      refine ⟨t, _, rfl, st_of upd_same, rfl, _, _, rfl, _, _, rfl, _, _, rfl, _, _, rfl, rfl, ?_⟩
      exact ⟨a, b, ln, lf, rfl, ⟨⟨(ca.ex e2).ex ((e3.trans e4).trans e5), cb.ex ((e3.trans e4).trans e5), M, m0, m1, pu, pv'⟩, e5 _ _ (e4 _ _ hn), e5 _ _ hf, hD.tb.ext e15, .of e15⟩⟩
    · rintro σ1 H1 ⟨a, b, ln, lf, rfl, h⟩
      -- due
      refine ⟨fun σ' H' => σ' = [some (.ref c), some (.ref d), some (.ref a), some (.ref b), some (.ref ln), some (.ref lf), some (.bl (decide ((List.range 130).filter (fun x => dr G x && !dr D x) = []))), none, none, none] ∧ PF T C H a b ln lf (dr G) (dr D) H', ?_, ?_⟩
      · refine ⟨130, rfl, by decide, by decide, fun L nL => ?_⟩
        rw [show ((130 : Int).toNat) = 130 from rfl]
        refine lc_fm (fl := fun x => dr G x && !dr D x) (vf := fun n => .int (n : Int)) wk_range0 nL (by rw [List.length_range]; decide) (fun n H2 hn e2 Q' z => ?_) (fun n H2 hn _ e2 Q' z => ⟨_, rfl, z H2 (Ex.refl _)⟩) (fun H2 e2 hl => ?_)
        · have hn : n < 130 := by simpa using hn
          have z := z H2 (Ex.refl _)
          have hh := h.ex e2
          refine ⟨_, rfl, _, rfl, ln, _, _, _, rfl, rfl, sq_of hh.near, atI_nat (bv_at hn), ?_⟩
          cases hu : dr G n with
          | false =>
            rw [hu] at z
            exact ⟨_, rfl, itF rfl z⟩
          | true =>
            rw [hu] at z
            exact ⟨_, rfl, itT rfl ⟨_, rfl, _, rfl, lf, _, _, _, rfl, rfl, sq_of hh.far, atI_nat (bv_at hn), _, rfl, z⟩⟩
        · refine ⟨(by show 0 ≤ sizeLine; decide), fun L2 nL2 => ?_⟩
          have e3 := Ex.new (o := .lst []) nL2
          refine ⟨_, _, dp_listI (e3 _ _ hl), dp_listI (l := []) upd_same, listD_ok _, listD_ok _, ?_⟩
          rw [listD_nil]
          exact ⟨rfl, h.ex (e2.trans e3)⟩
      · rintro σ1 H1 ⟨rfl, h⟩
        have hdue : ∀ r : Bool, (r = true ↔ ∀ x, (dr G x && !dr D x) = false) → r = decide ((List.range 130).filter (fun x => dr G x && !dr D x) = []) := fun r hr => by
          rw [Bool.eq_iff_iff, hr, decide_eq_true_iff]
          exact hnil.symm
        generalize decide ((List.range 130).filter (fun x => dr G x && !dr D x) = []) = due at hdue ⊢
        -- repr
        refine ⟨fun σ' H' => σ' = [some (.ref c), some (.ref d), some (.ref a), some (.ref b), some (.ref ln), some (.ref lf), some (.bl due), none, none, none] ∧ PF T C H a b ln lf (dr G) (dr D) H', ?_, ?_⟩
        · refine ⟨_, rfl, _, rfl, a, b, dr G, dr D, rfl, h.tw, h.tb, fun r1 H2 e2 t2 hr1 => ?_⟩
          have h2 := h.to e2 t2
          refine ⟨_, rfl, _, rfl, a, b, dr G, dr D, rfl, h2.tw, h2.tb, fun r2 H3 e3 t3 hr2 => ⟨(by show 2 ≤ sizeLine; decide), fun l nl => ?_⟩⟩
          have h3 := h2.to e3 t3
          rw [hdue r1 hr1, hdue r2 hr2]
          refine ⟨l, .bl due, _, rfl, upd_same, .bl due, ?_⟩
          refine ⟨_, rfl, _, rfl, (by show 2 ≤ sizeLine; decide), fun m nm => ⟨m, .bl due, _, rfl, upd_same, .bl due, rfl, _, rfl, itF (by simp) ⟨rfl, ?_⟩⟩⟩
          exact (h3.ex (Ex.new nl)).ex (Ex.new nm)
        · rintro σ1 H1 ⟨rfl, h⟩
          -- due != (..)
          refine ⟨fun σ' H' => σ' = [some (.ref c), some (.ref d), some (.ref a), some (.ref b), some (.ref ln), some (.ref lf), some (.bl due), none, none, none] ∧ PF T C H a b ln lf (dr G) (dr D) H', ?_, ?_⟩
          · refine ⟨_, rfl, _, rfl, _, rfl, a, b, dr G, dr D, rfl, h.tw, h.tb, fun r1 H2 e2 t2 c1 => ?_⟩
            have h2 := h.to e2 t2
            refine ⟨(by show 0 ≤ sizeLine; decide), fun t nt => ⟨t, rfl, upd_same, fun r2 H3 e3 c2 => ?_⟩⟩
            have e13 := (Ex.new (o := .tup []) nt).trans e3
            refine own_eq (c1.ex e13) c2 fun r hr => ?_
            have : r = due := hdue r ⟨fun z x => congrFun (hr.mp z) x, fun z => hr.mpr (funext z)⟩
            rw [this]
            exact ⟨rfl, _, rfl, itF (by simp) ⟨rfl, h2.ex e13⟩⟩
          · rintro σ1 H1 ⟨rfl, h⟩
            -- some
            refine ⟨130, rfl, by decide, by decide, fun L nL => ?_⟩
            rw [show ((130 : Int).toNat) = 130 from rfl]
            refine lc_fm (fl := fun x => dr G x != dr D x) (vf := fun n => .int (n : Int)) wk_range0 nL (by rw [List.length_range]; decide) (fun n H2 hn e2 Q' z => ?_) (fun n H2 hn _ e2 Q' z => ⟨_, rfl, z H2 (Ex.refl _)⟩) (fun H2 e2 hl => ?_)
            · have hn : n < 130 := by simpa using hn
              have z := z H2 (Ex.refl _)
              have hh := h.ex e2
              refine ⟨_, rfl, _, rfl, ln, _, _, _, rfl, rfl, sq_of hh.near, atI_nat (bv_at hn), _, rfl, _, rfl, lf, _, _, _, rfl, rfl, sq_of hh.far, atI_nat (bv_at hn), rfl, _, rfl, ?_⟩
              have e : (!decide (V.bl (dr G n) = V.bl (dr D n))) = (dr G n != dr D n) := by
                cases dr G n <;> cases dr D n <;> rfl
              rw [e]
              exact z
            · have h2 := h.ex e2
              -- spot
              refine ⟨fun σ' H' => ∃ sp : V, σ' = [some (.ref c), some (.ref d), some (.ref a), some (.ref b), some (.ref ln), some (.ref lf), some (.bl due), some (.ref L), some sp, none] ∧ PF T C H a b ln lf (dr G) (dr D) H' ∧ ∀ r, First (fun x => dr G x != dr D x) r → sp = r, ?_, ?_⟩
              · refine ⟨_, rfl, (by show 0 ≤ sizeLine; decide), fun L2 nL2 => ?_⟩
                have e3 := Ex.new (o := .lst []) nL2
                have hl3 := e3 _ _ hl
                refine ⟨_, _, dp_listI hl3, dp_listI (l := []) upd_same, listD_ok _, listD_ok _, ?_⟩
                rw [listD_nil]
                refine ⟨_, rfl, itB (fun hc => ?_) (fun hc => ?_)⟩
                · have hc : ¬ (List.range 130).filter (fun x => dr G x != dr D x) = [] := by simpa using hc
                  obtain ⟨k, hk⟩ : ∃ k, ((List.range 130).filter (fun x => dr G x != dr D x))[0]? = some k := by
                    cases e : (List.range 130).filter (fun x => dr G x != dr D x) with
                    | nil => exact absurd e hc
                    | cons k r => exact ⟨k, rfl⟩
                  refine ⟨_, rfl, L, _, 0, _, rfl, rfl, sq_of hl3, atI_nat (j := 0) (iv_at hk), .int (k : Int), rfl, h2.ex e3, fun r hr => ?_⟩
                  rcases hr with ⟨rfl, hr⟩ | ⟨m, rfl, hm, hm1, hm2⟩
                  · exact absurd (List.filter_eq_nil_iff.mpr fun x _ => by
                      have z : (dr G x != dr D x) = false := hr x
                      rw [z]
                      decide) hc
                  · rw [first_head (by omega) hm1 hm2] at hk
                    cases hk
                    rfl
                · have hc : (List.range 130).filter (fun x => dr G x != dr D x) = [] := by simpa using hc
                  refine ⟨.non, rfl, h2.ex e3, fun r hr => ?_⟩
                  rcases hr with ⟨rfl, hr⟩ | ⟨m, rfl, hm, hm1, hm2⟩
                  · rfl
                  · have := first_head (n := 130) (by omega) hm1 hm2
                    rw [hc] at this
                    cases this
              · rintro σ1 H1 ⟨sp, rfl, h, hsp⟩
                refine ⟨_, rfl, _, rfl, a, b, dr G, dr D, rfl, h.tw, h.tb, fun r1 H2 e2 t2 hr1 => ?_⟩
                have h2 := h.to e2 t2
                refine ⟨_, rfl, _, rfl, a, b, dr G, dr D, rfl, h2.tw, h2.tb, fun r2 H3 e3 t3 hr2 => ⟨(by show 2 ≤ sizeLine; decide), fun l nl => ?_⟩⟩
                have h3 := h2.to e3 t3
                obtain ⟨dd, hdd⟩ : ∃ dd, K67R.Sm sp dd := by
                  rw [hsp r1 hr1]
                  rcases hr1 with ⟨rfl, _⟩ | ⟨m, rfl, hm, _⟩
                  · exact ⟨_, .non⟩
                  · exact ⟨_, .int m (by omega)⟩
                rw [← hsp r1 hr1, ← hsp r2 hr2]
                refine ⟨l, sp, _, rfl, upd_same, hdd, ?_⟩
                refine ⟨_, rfl, _, rfl, (by show 2 ≤ sizeLine; decide), fun m nm => ⟨m, sp, _, rfl, upd_same, hdd, rfl, ?_⟩⟩
                have h4 := (h3.ex (Ex.new nl)).ex (Ex.new (o := .lst [sp, sp]) nm)
                rw [decide_eq_true rfl]
                exact q _ h4.ext h4.tb
end
end K67
set_option Elab.async false
set_option linter.all false
set_option maxRecDepth 100000
set_option maxHeartbeats 8000000
namespace K67
open PySem L2 Evl LamX
/-- all but the tables and the object at k stays -/
def ExKN (k : Addr) (H H' : Hp) : Prop := ∀ c o, H c = some o → c ≠ k → (∀ ps, o ≠ .tbl ps) → H' c = some o
theorem tabs_k {T : List (Addr × Str)} {k : Addr} {H H' : Hp} (hk : KegAt H k) (e : ExK k H H') (t : Tabs T H) : Tabs T H' := fun p hp => by
  obtain ⟨ps, h1, h2, h3⟩ := t p hp
  obtain ⟨a, b, c, hk⟩ := hk
  refine ⟨ps, e _ _ h1 (fun z => ?_), h2, fun pos cv hc => ?_⟩
  · rw [z, hk] at h1
    cases h1
  · obtain ⟨c', e1, e2⟩ := h3 pos cv hc
    refine ⟨c', e1, e _ _ e2 (fun z => ?_)⟩
    rw [z, hk] at e2
    cases e2
theorem cut_from (ns : List Nat) (v : Nat) : cutV (iv ns) (some (v : Int)) none = iv (ns.drop v) := by
  unfold cutV
  rw [HT.sIx_nat, HT.sIx_none]
  have h : (iv ns).drop (min v (iv ns).length) = iv (ns.drop v) := by
    unfold iv
    rw [List.length_map, ← List.map_drop]
    congr 1
    rcases Nat.le_total v ns.length with z | z
    · rw [Nat.min_eq_left z]
    · rw [Nat.min_eq_right z, List.drop_eq_nil_of_le z, List.drop_eq_nil_of_le (Nat.le_refl _)]
  rw [h, List.take_of_length_le]
  rw [iv_len, iv_len, List.length_drop]
  omega
/-- the second tuple may come from the first -/
theorem good0 {G : Frm} (g : GoodD G) : GoodD ⟨G.early.drop 1, G.start, G.base, G.rests⟩ :=
  ⟨g.e1.drop, fun n h => g.e2 n (List.mem_of_mem_drop h), g.r1, g.r2, g.b0, g.b1, g.s1⟩
theorem good1 {G : Frm} (g : GoodD G) (hb : G.base ≤ 6) (v : Nat) : GoodD ⟨G.early, G.start, G.base * 2, ((List.range (2 * G.base)).filter fun r => decide (r % G.base ∈ G.rests)).drop v⟩ :=
  ⟨g.e1, g.e2, (range_strict _ _).drop, fun n h => by
    have := List.mem_range.mp (List.mem_filter.mp (List.mem_of_mem_drop h)).1
    show n < G.base * 2
    omega, by have := g.b0; show 0 < G.base * 2; omega, by show G.base * 2 ≤ 12; omega, g.s1⟩
section
variable {P : Program} {w : World} {K : PySem.W.Frag} {mg : Str → Option Value} {base : Heap} {C : Addr} {T : List (Addr × Str)}
abbrev nRi : List Str := ["_law_keg_here", "_law_c", "_law_d", "_law_way", "_law_wide", "_law_r"]
theorem scRi : FnScope nRi ["_law_keg_here"] (defScope (topS 49)) := ⟨rfl, rfl, rfl, by decide +kernel, rfl, by decide +kernel, by decide +kernel⟩
def spRi (T : List (Addr × Str)) : Sp := fun vs H Q _ => ∃ k : Addr, vs = [.ref k] ∧ KegAt H k ∧ Tabs T H ∧ ∀ H', ExKN k H H' → Tabs T H' → Q (.bl true) H'
/-- the two drawn tuples, on the way -/
structure Dn (T : List (Addr × Str)) (H0 : Hp) (k c d : Addr) (G D : Frm) (H : Hp) : Prop where
  kg : KegAt H k
  c : DrOff H c k G
  d : DrOff H d k D
  gc : GoodD G
  gd : GoodD D
  m : ∃ M, 0 < M ∧ M ≤ 30 ∧ G.base ∣ M ∧ D.base ∣ M
  tb : Tabs T H
  ext : ExK k H0 H
theorem Dn.to {T : List (Addr × Str)} {H0 H H' : Hp} {k c d : Addr} {G D : Frm} (h : Dn T H0 k c d G D H) (e : ExK k H H') (hk : KegAt H' k) : Dn T H0 k c d G D H' :=
  ⟨hk, h.c.ex e, h.d.ex e, h.gc, h.gd, h.m, tabs_k h.kg e h.tb, h.ext.trans e⟩
theorem keg_new {H : Hp} {k a : Addr} {o : HO} (h : KegAt H k) (n : H a = none) : KegAt (upd H a o) k ∧ a ≠ k := by
  obtain ⟨x, y, z, h⟩ := h
  exact ⟨⟨x, y, z, by rw [upd_ne (ne_of_none h n)]; exact h⟩, (ne_of_none h n).symm⟩
theorem ok_ri {f : Addr} {fd : FuncData} (F : Fun K "_law_right" "_law_right" (topS 49) f fd) (B : Bt mg) (GS : Fn P w K mg base 3 "_law_set" ["_law_keg_here", "_law_most"] spSet) (GT : Fn P w K mg base 1 "_law_tap" ["_law_keg_here", "_law_upto"] spTap)
    (GP : Fn P w K mg base 10 "_law_pair_right" ["_law_c", "_law_d"] (spPr T)) (GO : Gn P w K mg base 10 "_law_order_right" ["_law_c", "_law_d"] (spPr T)) : K67R.FnG P w K mg base 11 f fd ["_law_keg_here"] (spRi T) := by
  refine Fun.okG F scRi (fun vs H Q E h => ?_) (fun cdv A outer sh H vs Q hr hG h => ?_)
  · obtain ⟨k, rfl, _⟩ := h
    rfl
  · obtain ⟨k, rfl, hk, hT, q⟩ := h
    have h3 : Room 3 (cxOf CX0 P w K mg base nRi "_law_right" (defScope (topS 49)) f cdv A outer sh H E0).nox.A := hr.mono (by decide)
    have h1 : Room 1 (cxOf CX0 P w K mg base nRi "_law_right" (defScope (topS 49)) f cdv A outer sh H E0).nox.A := hr.mono (by decide)
    have hGx : (cxOf CX0 P w K mg base nRi "_law_right" (defScope (topS 49)) f cdv A outer sh H E0).nox.A.guards = some [] := hG
    refine ⟨_, pss_cons (ps_asg (pe_tup (pa_cons (pe_fn GS h3 (by rfl) (pa_cons (pv 0) (pa_cons pe_int pa_nil))) (pa_cons (pe_fn GS h3 (by rfl) (pa_cons (pv 0) (pa_cons pe_int pa_nil))) pa_nil)))
          (pg_tup rfl (pgs_cons (pg_name (i := 1) scRi.nd rfl (.inr rfl)) (pgs_cons (pg_name (i := 2) scRi.nd rfl (.inl rfl)) pgs_nil))))
      (pss_cons (ps_set (i := 3) scRi.nd rfl (.inl rfl) (pe_fn GT h1 (by rfl) (pa_cons (pv 0) (pa_cons pe_int pa_nil))))
      (Evl.pss_cut (ps_if (pt_cmpR op_eq (pv 3) pe_int (nomark _))
          (pss_one (ps_set (i := 2) scRi.nd rfl (.inl rfl) (pe_tup (pa_cons (pe_slice sl_list (pe_ix ix_tup (pv 1) pe_int (fun _ _ => rfl)) (po_some pe_int) po_none) (pa_cons (pe_ix ix_tup (pv 1) pe_int (fun _ _ => rfl)) (pa_cons (pe_ix ix_tup (pv 1) pe_int (fun _ _ => rfl)) (pa_cons (pe_ix ix_tup (pv 1) pe_int (fun _ _ => rfl)) pa_nil))))))) pss_nil)
      (Evl.pss_cut (ps_if (pt_cmpR op_eq (pv 3) pe_int (nomark _))
          (pss_cons (ps_setLc (i := 4) (own := [("_law_r", 5)]) (g := gName 5) (te := tVar 5) rfl scRi.nd rfl rfl (sw_true rfl rfl rfl (by decide +kernel)) (pi_range1 (by rfl) B.range (pa_cons (pe_op op_mul pe_int (pe_ix ix_tup (pv 1) pe_int (fun _ _ => rfl))) pa_nil)) (blkOk_by (N := nRi) (sc := defScope (topS 49)) (by decide +kernel)) (fun _ _ _ _ _ => pg_name (i := 5) scRi.nd rfl (.inl rfl))
              (fun _ _ _ _ _ => pts_one (pt_cmpR (r := rIn K false) op_in_seq (pe_op op_mod (pe_callTy call_int1 (by rfl) B.int (by decide +kernel) (pa_cons (pv 5) pa_nil)) (pe_ix (r := rIxT K) ix_tup (pv 1) pe_int (fun _ _ => rfl))) (pe_ix (r := rIxT K) ix_tup (pv 1) pe_int (fun _ _ => rfl)) rfl)) (fun _ _ _ _ _ => pv 5))
          (pss_one (ps_set (i := 2) scRi.nd rfl (.inl rfl) (pe_tup (pa_cons (pe_ix ix_tup (pv 1) pe_int (fun _ _ => rfl)) (pa_cons (pe_ix ix_tup (pv 1) pe_int (fun _ _ => rfl)) (pa_cons (pe_op op_mul (pe_ix ix_tup (pv 1) pe_int (fun _ _ => rfl)) pe_int)
            (pa_cons (pe_slice sl_list (pv 4) (po_some (pe_fn GT h1 (by rfl) (pa_cons (pv 0) (pa_cons pe_int pa_nil)))) po_none) pa_nil)))))))) pss_nil)
      (pss_one (ps_ret (pe_and (pe_fn GP hr (by rfl) (pa_cons (pv 1) (pa_cons (pv 2) pa_nil))) (pe_and (pe_gn GO hr hGx (by rfl) (pa_cons (pv 1) (pa_cons (pv 2) pa_nil))) (pe_one (pe_gn GO hr hGx (by rfl) (pa_cons (pv 2) (pa_cons (pv 1) pa_nil))))))))))), ?_⟩
    -- c, d = .., ..
    refine ⟨_, rfl, k, 6, rfl, hk, by decide, by decide, fun c G H1 e1 hk1 hc gc bc => ?_⟩
    refine ⟨_, rfl, k, 5, rfl, hk1, by decide, by decide, fun d D H2 e2 hk2 hd gd bd => ?_⟩
    refine ⟨(by show 2 ≤ sizeLine; decide), fun t nt => ⟨t, _, rfl, st_of upd_same, rfl, _, _, rfl, _, _, rfl, rfl, ?_⟩⟩
    obtain ⟨hk3, ntk⟩ := keg_new (o := .tup [.ref c, .ref d]) hk2 nt
    have e3 : ExK k H2 (upd H2 t (.tup [.ref c, .ref d])) := .of (Ex.new nt)
    refine ⟨_, rfl, k, 4, rfl, hk3, by decide, by decide, fun way H4 hw e4 hk4 => ?_⟩
    have e14 := ((e1.trans e2).trans e3).trans e4
    have n : Dn T H k c d G D H4 := by
      refine ⟨hk4, ((hc.ex e2).ex e3).ex e4, (hd.ex e3).ex e4, gc, gd, ⟨Nat.lcm G.base D.base, Nat.lcm_pos gc.b0 gd.b0, ?_, Nat.dvd_lcm_left _ _, Nat.dvd_lcm_right _ _⟩, tabs_k hk e14 hT, e14⟩
      have h1 := Nat.le_of_dvd (Nat.mul_pos gc.b0 gd.b0) (Nat.lcm_dvd (Nat.dvd_mul_right G.base D.base) (Nat.dvd_mul_left D.base G.base))
      have h2 : G.base * D.base ≤ 6 * 5 := Nat.mul_le_mul bc bd
      omega
    refine ⟨fun σ' H' => ∃ (d : Addr) (D : Frm), σ' = [some (.ref k), some (.ref c), some (.ref d), some (.int (way : Int)), none, none] ∧ Dn T H k c d G D H', ?_, ?_⟩
    · -- way 0
      refine ⟨_, rfl, rfl, _, rfl, itB (fun _ => ?_) (fun _ => ⟨d, D, rfl, n⟩)⟩
      obtain ⟨l1, l2, h1, h2, h3, n1, n2, n3⟩ := id n.c
      refine ⟨_, rfl, c, _, 0, _, rfl, rfl, st_of h1, atI_nat (j := 0) rfl, 1, rfl, l1, _, rfl, sq_of h2, fun p np => ?_⟩
      have e5 := Ex.new (o := .lst (cutV (iv G.early) (some 1) none)) np
      obtain ⟨hk5, npk⟩ := keg_new (o := .lst (cutV (iv G.early) (some 1) none)) hk4 np
      refine ⟨_, rfl, c, _, 1, _, rfl, rfl, st_of (e5 _ _ h1), atI_nat (j := 1) rfl, _, rfl, c, _, 2, _, rfl, rfl, st_of (e5 _ _ h1), atI_nat (j := 2) rfl, _, rfl, c, _, 3, _, rfl, rfl, st_of (e5 _ _ h1), atI_nat (j := 3) rfl, (by show 4 ≤ sizeLine; decide), fun u nu => ?_⟩
      have e6 := Ex.new (o := .tup [.ref p, .int (G.start : Int), .int (G.base : Int), .ref l2]) nu
      obtain ⟨hk6, nuk⟩ := keg_new (o := .tup [.ref p, .int (G.start : Int), .int (G.base : Int), .ref l2]) hk5 nu
      have n6 := n.to (.of (e5.trans e6)) hk6
      refine ⟨u, ⟨G.early.drop 1, G.start, G.base, G.rests⟩, rfl, n6.kg, n6.c, ⟨p, l2, upd_same, ?_, e6 _ _ (e5 _ _ h3), nuk, npk, n3⟩, n6.gc, good0 gc, ⟨G.base, gc.b0, by omega, Nat.dvd_refl _, Nat.dvd_refl _⟩, n6.tb, n6.ext⟩
      rw [← cut_from]
      exact e6 _ _ upd_same
    · rintro σ1 H1 ⟨d, D, rfl, n⟩
      refine ⟨fun σ' H' => ∃ (d : Addr) (D : Frm) (x4 : Option V), σ' = [some (.ref k), some (.ref c), some (.ref d), some (.int (way : Int)), x4, none] ∧ Dn T H k c d G D H', ?_, ?_⟩
      · -- way 1
        refine ⟨_, rfl, rfl, _, rfl, itB (fun _ => ?_) (fun _ => ⟨d, D, none, rfl, n⟩)⟩
        obtain ⟨l1, l2, h1, h2, h3, n1, n2, n3⟩ := id n.c
        have gb := gc.b0
        refine ⟨_, rfl, c, _, 2, _, rfl, rfl, st_of h1, atI_nat (j := 2) rfl, _, _, rfl, rfl, .inl ⟨by decide, by decide⟩, 2 * (G.base : Int), rfl, by omega, by omega, fun L nL => ?_⟩
        rw [show ((2 * (G.base : Int)).toNat) = 2 * G.base by omega]
        refine lc_fm (fl := fun r => decide (r % G.base ∈ G.rests)) (vf := fun n => .int (n : Int)) wk_range0 nL (by rw [List.length_range]; omega) (fun m H2 hm e2 Q' z => ?_) (fun m H2 hm _ e2 Q' z => ⟨_, rfl, z H2 (Ex.refl _)⟩) (fun H2 e2 hl => ?_)
        · have z := z H2 (Ex.refl _)
          rw [← inV_iv] at z
          exact ⟨_, rfl, .inl ⟨_, rfl, _, rfl, c, _, 2, _, rfl, rfl, st_of (e2 _ _ h1), atI_nat (j := 2) rfl, _, _, rfl, rfl, (by show (0 : Int) < (G.base : Int); omega), _, rfl, c, _, 3, _, rfl, rfl, st_of (e2 _ _ h1), atI_nat (j := 3) rfl, l2, _, rfl, .inl (sq_of (e2 _ _ h3)), rfl, iv_flat _, _, rfl, z⟩⟩
        · have hk2 : KegAt H2 k := by
            obtain ⟨x, y, w, h⟩ := n.kg
            exact ⟨x, y, w, e2 _ _ h⟩
          have nLk : L ≠ k := (keg_new (o := .lst []) n.kg nL).2
          refine ⟨_, rfl, c, _, 0, _, rfl, rfl, st_of (e2 _ _ h1), atI_nat (j := 0) rfl, _, rfl, c, _, 1, _, rfl, rfl, st_of (e2 _ _ h1), atI_nat (j := 1) rfl, _, rfl, c, _, 2, _, rfl, rfl, st_of (e2 _ _ h1), atI_nat (j := 2) rfl, _, _, rfl, rfl, .inr ⟨by decide, by decide⟩, ?_⟩
          refine ⟨_, rfl, _, rfl, k, 2, rfl, hk2, by decide, by decide, fun v H3 hv e3 hk3 => ⟨(v : Int), rfl, L, _, rfl, sq_of (e3 _ _ hl nLk), fun p np => ?_⟩⟩
          have e4 := Ex.new (o := .lst (cutV (iv ((List.range (2 * G.base)).filter fun r => decide (r % G.base ∈ G.rests))) (some (v : Int)) none)) np
          obtain ⟨hk4, npk⟩ := keg_new (o := .lst (cutV (iv ((List.range (2 * G.base)).filter fun r => decide (r % G.base ∈ G.rests))) (some (v : Int)) none)) hk3 np
          refine ⟨(by show 4 ≤ sizeLine; decide), fun u nu => ?_⟩
          have e5 := Ex.new (o := .tup [.ref l1, .int (G.start : Int), .int ((G.base : Int) * 2), .ref p]) nu
          obtain ⟨hk5, nuk⟩ := keg_new (o := .tup [.ref l1, .int (G.start : Int), .int ((G.base : Int) * 2), .ref p]) hk4 nu
          have n5 := n.to (((ExK.of e2).trans e3).trans (.of (e4.trans e5))) hk5
          have eb : ((G.base : Int) * 2) = ((G.base * 2 : Nat) : Int) := by omega
          refine ⟨u, ⟨G.early, G.start, G.base * 2, ((List.range (2 * G.base)).filter fun r => decide (r % G.base ∈ G.rests)).drop v⟩, _, rfl, n5.kg, n5.c, ⟨l1, p, ?_, e5 _ _ (e4 _ _ (e3 _ _ (e2 _ _ h2) n2)), ?_, nuk, n2, npk⟩, n5.gc, good1 gc bc v, ⟨G.base * 2, by omega, by omega, Nat.dvd_mul_right _ _, Nat.dvd_refl _⟩, n5.tb, n5.ext⟩
          · show _ = some (HO.tup [.ref l1, .int (G.start : Int), .int ((G.base * 2 : Nat) : Int), .ref p])
            rw [← eb]
            exact upd_same
          · rw [← cut_from]
            exact e5 _ _ upd_same
      · rintro σ1 H1 ⟨d, D, x4, rfl, n⟩
        refine ⟨_, rfl, _, rfl, c, d, G, D, rfl, ⟨n.c.at, n.d.at, n.gc, n.gd, n.m, n.tb⟩, fun H2 e2 t2 => ⟨_, rfl, itT rfl ?_⟩⟩
        refine ⟨_, rfl, _, rfl, c, d, G, D, rfl, ⟨n.c.at.keep e2, n.d.at.keep e2, n.gc, n.gd, n.m, t2⟩, fun H3 e3 t3 => ⟨_, rfl, itT rfl ?_⟩⟩
        obtain ⟨M, m0, m1, d1, d2⟩ := n.m
        have e23 := e2.trans e3
        refine ⟨_, rfl, _, rfl, d, c, D, G, rfl, ⟨n.d.at.keep e23, n.c.at.keep e23, n.gd, n.gc, ⟨M, m0, m1, d2, d1⟩, t3⟩, fun H4 e4 t4 => ?_⟩
        exact q H4 (fun a o h1 h2 h3 => (e23.trans e4) _ _ (n.ext _ _ h1 h2) h3) t4
end
end K67
set_option Elab.async false
set_option linter.all false
set_option maxRecDepth 100000
set_option maxHeartbeats 8000000
namespace K67
open PySem L2 Evl LamX
theorem tabs_upd {T : List (Addr × Str)} {D : Addr} {H : Hp} {acc : List V} {o : HO} (hD : H D = some (.lst acc)) (t : Tabs T H) : Tabs T (upd H D o) := fun p hp => by
  obtain ⟨ps, h1, h2, h3⟩ := t p hp
  have ne : ∀ {b : Addr} {u : HO}, H b = some u → u ≠ .lst acc → upd H D o b = some u := fun {b u} e n => by
    rw [upd_ne (fun z => n (by rw [z, hD] at e; exact (Option.some.inj e).symm))]
    exact e
  refine ⟨ps, ne h1 (fun z => by cases z), h2, fun pos cv hc => ?_⟩
  obtain ⟨c', e1, e2⟩ := h3 pos cv hc
  exact ⟨c', e1, ne e2 (fun z => by cases z)⟩
theorem sql_kn {K : PySem.W.Frag} {H H' : Hp} {a : Addr} {xs : List V} (h : SqL K H a xs) (e : ∀ o, H a = some o → (∀ ps, o ≠ .tbl ps) → H' a = some o) : SqL K H' a xs := by
  rcases h with (h | ⟨o, h⟩) | h
  · exact .inl (.inl (e _ h fun ps z => by cases z))
  · exact .inl (.inr ⟨o, e _ h fun ps z => by cases z⟩)
  · exact .inr h
section
variable {P : Program} {w : World} {K : PySem.W.Frag} {mg : Str → Option Value} {base : Heap} {C : Addr} {T : List (Addr × Str)}
theorem scLaw : FnScope ["_law_cells", "_law_at"] ["_law_cells"] (defScope (topS 50)) := ⟨rfl, rfl, rfl, by decide +kernel, rfl, by decide +kernel, by decide +kernel⟩
def spLaw (K : PySem.W.Frag) (T : List (Addr × Str)) : Sp := fun vs H Q _ => ∃ (a : Addr) (ns : List Int), vs = [.ref a] ∧ SqL K H a (ns.map V.int) ∧ ns.length ≤ 63 ∧ Tabs T H ∧ ∀ H', Q (.bl true) H'
theorem ok_law {f : Addr} {fd : FuncData} (F : Fun K "law" "law" (topS 50) f fd) (B : Bt mg) (GK : Fn P w K mg base 1 "_law_keg" ["_law_cells", "_law_at"] (spKeg K)) (GR : Gn P w K mg base 11 "_law_right" ["_law_keg_here"] (spRi T)) : K67R.FnG P w K mg base 12 f fd ["_law_cells"] (spLaw K T) := by
  refine Fun.okG F scLaw (fun vs H Q E h => ?_) (fun cdv A outer sh H vs Q hr hG h => ?_)
  · obtain ⟨a, ns, rfl, _⟩ := h
    rfl
  · obtain ⟨a, ns, rfl, hs, hn, hT, q⟩ := h
    have h1 : Room 1 (cxOf CX0 P w K mg base ["_law_cells", "_law_at"] "law" (defScope (topS 50)) f cdv A outer sh H E0).nox.A := hr.mono (by decide)
    have hGx : (cxOf CX0 P w K mg base ["_law_cells", "_law_at"] "law" (defScope (topS 50)) f cdv A outer sh H E0).nox.A.guards = some [] := hG
    refine ⟨_, pss_one (ps_ret (pe_callB (cr_all rfl) (by rfl) B.all (by decide +kernel) (pa_cons
      (pe_lc (own := [("_law_at", 1)]) (g := gName 1) (tt := tYes) (te := tCall (spRi T) [] E0 (tCons (tCall (spKeg K) [] E0 (tCons (tVar 0) (tCons (tVar 1) tNil))) tNil)) rfl scLaw.nd (pi_range1 (by rfl) B.range (pa_cons (pe_callB (call_max2 rfl) (by rfl) B.max (by decide +kernel) (pa_cons pe_int (pa_cons (pe_callB (call_min2 rfl) (by rfl) B.min (by decide +kernel) (pa_cons (pe_callB call_len_seq (by rfl) B.len PySem.boot_len (pa_cons (pv 0) pa_nil)) (pa_cons pe_int pa_nil))) pa_nil))) pa_nil)) (blkOk_by (N := ["_law_cells", "_law_at"]) (sc := defScope (topS 50)) (by decide +kernel)) (fun _ _ _ _ _ => pg_name (i := 1) scLaw.nd rfl (.inl rfl)) (fun _ _ _ _ _ => pts_nil)
        (fun _ _ _ _ _ => pe_gn GR (by exact hr) (by exact hGx) (by rfl) (pa_cons (pe_fn GK (by exact h1) (by rfl) (pa_cons (pv 0) (pa_cons (pv 1) pa_nil))) pa_nil))) pa_nil))), ?_⟩
    refine ⟨_, rfl, a, _, rfl, .inl hs, _, _, rfl, _, _, rfl, ?_⟩
    obtain ⟨n, en, hn2⟩ : ∃ n : Nat, (if (if (3 : Int) < (((ns.map V.int).length : Nat) : Int) then (3 : Int) else (((ns.map V.int).length : Nat) : Int)) > 2 then (if (3 : Int) < (((ns.map V.int).length : Nat) : Int) then (3 : Int) else (((ns.map V.int).length : Nat) : Int)) else 2) = (n : Int) ∧ n ≤ 3 := by
      by_cases z : (3 : Int) < (((ns.map V.int).length : Nat) : Int)
      · exact ⟨3, by rw [if_pos z]; rfl, Nat.le_refl _⟩
      · rw [if_neg z]
        by_cases y : (((ns.map V.int).length : Nat) : Int) > 2
        · exact ⟨_, by rw [if_pos y], by omega⟩
        · exact ⟨2, by rw [if_neg y]; rfl, by decide⟩
    refine ⟨_, rfl, ?_⟩
    rw [en]
    refine ⟨by omega, by omega, fun D nD => ?_⟩
    rw [Int.toNat_natCast]
    refine lc_range (lo := 0) (n := n) (fun i H2 => H2 D = some (.lst ((List.replicate i true).map V.bl)) ∧ Tabs T H2 ∧ ∀ o, H a = some o → (∀ ps, o ≠ .tbl ps) → H2 a = some o) ⟨upd_same, hT.ext (Ex.new nD), fun o h1 _ => Ex.new nD _ _ h1⟩ (fun i H2 hi ⟨hD, hT2, ha⟩ => ?_) (fun H2 ⟨hD, hT2, ha⟩ => ?_)
    · rw [Int.zero_add]
      refine ⟨rfl, yes_of ?_⟩
      refine ⟨_, rfl, _, rfl, a, ns, i, rfl, sql_kn hs ha, by omega, fun k H3 e3 nk hk => ?_⟩
      refine ⟨k, rfl, hk, hT2.ext e3, fun H4 e4 hT4 => ?_⟩
      have nDk : D ≠ k := ne_of_none hD nk
      have hD4 := e4 _ _ (e3 _ _ hD) nDk (fun ps z => by cases z)
      refine ⟨_, hD4, ?_, ?_, tabs_upd hD4 hT4, fun o h1 h2 => ?_⟩
      · rw [List.length_map, List.length_replicate]
        exact small1000 (by omega)
      · rw [upd_same, List.replicate_succ', List.map_append]
        rfl
      · rw [upd_ne (ne_of_none h1 nD)]
        have h3 := ha o h1 h2
        exact e4 _ _ (e3 _ _ h3) (ne_of_none h3 nk) h2
    · refine ⟨D, _, rfl, sq_of hD, ?_⟩
      rw [show (List.replicate n true).all id = true by rw [List.all_eq_true]; intro x hx; exact (List.mem_replicate.mp hx).2]
      exact q H2
end
end K67
set_option Elab.async false
set_option linter.all false
set_option maxRecDepth 100000
set_option maxHeartbeats 2000000
namespace K67
open PySem PySem.Spec PyProof.Rows L2 LamX
/-- the code object and the table of a def, from what is written out -/
theorem tab_in {K : PySem.W.Frag} {x : Str} {f c Pt : Addr} {oc e : Value} {od dd : Option Addr} {fd : FuncData} {sl sl2 : Array (Option Value)} {vs : Array Value} (a : PySem.W.nsIn K mainGlobals x = some (some (.ref f))) (l : K.lookup f = some ⟨oc, od, .func fd, sl⟩) (hc : fd.code = .ref c)
    (lc : K.lookup c = some ⟨e, dd, .fields vs, sl2⟩) (hv : vs[11]? = some (.ref Pt)) : PySem.W.tabIn K x = some (c, Pt) := by
  unfold PySem.W.tabIn
  simp only [a, l, hc, lc, hv]
section
variable {P : Program} {w : World} {K : PySem.W.Frag} {mg mb : Str → Option Value} {k : Nat} {fa a : Addr} {cs : List (Addr × Addr)} {fd : FuncData} {x : Str} {sp : Sp} {s : Shared} {vs : List Value} {ns : List Int}
/-- what is told of the heap when the law is called: the empty tables, and the script where it is not written out -/
def hp0 (K : PySem.W.Frag) (cs : List (Addr × Addr)) (a : Addr) (vs : List Value) (ns : List Int) : Hp := fun b => if b ∈ cs.map (·.2) then some (.tbl #[]) else if b = a ∧ (K.lookup a).isNone = true then some (.frz { cls := .type "list", data := .seq vs.toArray } (.lst (ns.map V.int))) else none
theorem hp0_cases {b : Addr} {u : HO} (h : hp0 K cs a vs ns b = some u) : (b ∈ cs.map (·.2) ∧ u = .tbl #[]) ∨ (b ∉ cs.map (·.2) ∧ b = a ∧ K.lookup a = none ∧ u = .frz { cls := .type "list", data := .seq vs.toArray } (.lst (ns.map V.int))) := by
  unfold hp0 at h
  split at h
  · rename_i hb
    exact .inl ⟨hb, (Option.some.inj h).symm⟩
  · rename_i hb
    split at h
    · rename_i hc
      exact .inr ⟨hb, hc.1, by simpa using hc.2, (Option.some.inj h).symm⟩
    · cases h
theorem end_call (KX : K.In s.heap) (hns : s.heap.Ns mainGlobals mg) (hb : s.heap.Ns builtinsNs mb) (hbb : ∀ x : Str, x ≠ "__name__" → mb x = bootBuiltins x) (hlim : s.heap.NoLimit) (hg : s.gens = #[])
    (hT : ∀ p ∈ cs, s.heap.get? p.2 = some { cls := .none, data := .fields #[] }) (nT : ∀ p ∈ cs, K.lookup p.2 = none) (C : ∀ p ∈ cs, PySem.W.CodeHd s.heap p.1 p.2)
    (hbm : ∃ (bm : Addr) (ob : Obj), mg "__builtins__" = some (.ref bm) ∧ bm ≠ builtinsNs ∧ s.heap.get? bm = some ob ∧ ob.cls = .type "module" ∧ ob.dict = some builtinsNs ∧ ob.data = .plain)
    (ha : s.heap.get? a = some { cls := .type "list", data := .seq vs.toArray }) (hi : IntsAre vs ns) (hl : ns.length ≤ sizeLine) (hr : Room k callerA)
    (F : ∀ base : Heap, K.In base → base.Ns mainGlobals mg → (∀ p ∈ cs, TabB base mg p.1 p.2) → K67R.FnG P w K mg base k fa fd [x] sp) (hbind : ∀ (s : Shared) (u : Value), BindsTo s fd ⟨[u], []⟩ [(x, u)])
    (hsp : ∀ H : Hp, (∀ p ∈ cs, H p.2 = some (.tbl #[])) → SqL K H a (ns.map V.int) → sp [.ref a] H (fun v _ => v = .bl true) fun _ _ _ => False) :
    codeAny (model P w) callerA (.call (.ref fa) ⟨[.ref a], []⟩) (fun r s' => r = .ok (.ret (.bool true)) ∧ OldK s.heap s'.heap ∧ s'.os = s.os ∧ AllBare s'.gens) s := by
  have rv := vals_ints hi
  have tab : ∀ {b : Addr}, b ∈ cs.map (·.2) → ∃ p ∈ cs, p.2 = b := fun {b} h => by
    obtain ⟨p, hp, e⟩ := List.mem_map.mp h
    exact ⟨p, hp, e⟩
  have isT : ∀ {b : Addr}, b ∈ cs.map (·.2) → s.heap.get? b = some { cls := .none, data := .fields #[] } := fun {b} h => by
    obtain ⟨p, hp, rfl⟩ := tab h
    exact hT p hp
  have aT : a ∉ cs.map (·.2) := fun z => by
    have q := isT z
    rw [ha] at q
    have z' : Data.seq vs.toArray _ = Data.fields #[] := congrArg Obj.data (Option.some.inj q)
    cases z'
  -- what is told
  have told : ∀ p ∈ cs, hp0 K cs a vs ns p.2 = some (.tbl #[]) := fun p hp => if_pos (List.mem_map.mpr ⟨p, hp, rfl⟩)
  have seq : SqL K (hp0 K cs a vs ns) a (ns.map V.int) := by
    cases e : K.lookup a with
    | none => exact .inl (.inr ⟨_, (if_neg aT).trans (if_pos ⟨rfl, by rw [e]; rfl⟩)⟩)
    | some o =>
      have z := KX _ _ e
      rw [ha] at z
      cases z
      exact .inr ⟨_, vs.toArray, _, e, rfl, rfl, rfl, by rw [List.size_toArray, hi.length]; exact hl, by simpa using rv⟩
  have hok : HOk P w (hp0 K cs a vs ns) s.heap := fun b u h => by
    rcases hp0_cases h with ⟨h1, rfl⟩ | ⟨_, rfl, _, rfl⟩
    · exact isT h1
    · exact ⟨ha, by rw [List.length_map]; exact hl, vs, _, rv, ha⟩
  -- what is not told stands in the base
  have free : ∀ {b : Addr} {o : Obj}, s.heap.get? b = some o → (∀ us n, o.data ≠ .seq us n) → o.data ≠ .fields #[] → hp0 K cs a vs ns b = none := fun {b o} e h1 h2 => by
    cases q : hp0 K cs a vs ns b with
    | none => rfl
    | some u =>
      rcases hp0_cases q with ⟨z, _⟩ | ⟨_, z, _⟩
      · rw [isT z] at e
        cases e
        exact absurd rfl h2
      · rw [z, ha] at e
        cases e
        exact absurd rfl (h1 _ _)
  have down : ∀ {b : Addr} {o : Obj}, s.heap.get? b = some o → hp0 K cs a vs ns b = none → (hidT s.heap (hp0 K cs a vs ns)).get? b = some o := fun e n => hidT_get e n
  have dict : ∀ {b : Addr} {o : Obj} {es : Array DictEntry} {ep : Nat}, s.heap.get? b = some o → o.data = .dict es ep → (hidT s.heap (hp0 K cs a vs ns)).get? b = some o := fun {b o es ep} e d => down e (free e (fun us n z => by rw [d] at z; cases z) fun z => by rw [d] at z; cases z)
  have nsK : ∀ {b : Addr} {m : Str → Option Value}, s.heap.Ns b m → (hidT s.heap (hp0 K cs a vs ns)).Ns b m := fun {b m} ⟨o, es, ep, e, d, r⟩ => ⟨o, es, ep, dict e d, d, r⟩
  have hKb : K.In (hidT s.heap (hp0 K cs a vs ns)) := fun b o e => down (KX b o e) (by
    cases q : hp0 K cs a vs ns b with
    | none => rfl
    | some u =>
      rcases hp0_cases q with ⟨z, _⟩ | ⟨_, z, z2, _⟩
      · obtain ⟨p, hp, rfl⟩ := tab z
        rw [nT p hp] at e
        cases e
      · rw [z, z2] at e
        cases e)
  have hM : L2.Mod K mg (hidT s.heap (hp0 K cs a vs ns)) := ⟨hKb, nsK hns, ⟨mb, nsK hb, hbb⟩, let ⟨mc, h1, h2⟩ := hlim; ⟨mc, nsK h1, h2⟩⟩
  have TB : ∀ p ∈ cs, TabB (hidT s.heap (hp0 K cs a vs ns)) mg p.1 p.2 := fun p hp => by
    refine ⟨?_, ?_, fun z => ?_⟩
    · obtain ⟨o, us, file, tf, flags, tg, inF, text, tt, e1, r1, r2, r3, r⟩ := C p hp
      exact ⟨o, us, file, tf, flags, tg, inF, text, tt, down e1 (free e1 (fun vs n z => by rw [r2] at z; cases z) fun z => by rw [r2] at z; cases z; simp at r3), r1, r2, r3, r⟩
    · obtain ⟨bm, ob, b1, b2, b3, b4, b5, b6⟩ := hbm
      refine ⟨bm, ob, b1, b2, fun q => ?_, fun q => ?_, down b3 (free b3 (fun vs n z => by rw [b6] at z; cases z) fun z => by rw [b6] at z; cases z), b4, b5, b6⟩
      · obtain ⟨o, es, ep, e, hd, _⟩ := hns
        rw [q, e] at b3
        cases b3
        rw [hd] at b6
        cases b6
      · rw [q, hT p hp] at b3
        cases b3
        cases b6
    · obtain ⟨o, es, ep, e, hd, _⟩ := hns
      rw [z, hT p hp] at e
      cases e
      cases hd
  have e0 : Env0 P w K mg (hidT s.heap (hp0 K cs a vs ns)) callerA [] s (hp0 K cs a vs ns) := ⟨rfl, hM, fun b o e => of_hidT e, Nat.le_of_eq (hidT_size _ _), trivial, fun b hb => absurd (show b ∈ ([] : List Addr) from hb) (by simp), hok, .of_eq hg⟩
  refine codeAny_mono ((F _ hKb (nsK hns) TB).run callerA [] s _ ⟨[.ref a], []⟩ [.ref a] [.ref a] _ hr rfl e0 (hbind s (.ref a)) (.cons rfl .nil) (hsp _ told seq)) fun r s' h => ?_
  cases r with
  | error e => exact (show False from h).elim
  | ok fl =>
    cases fl with
    | next => exact False.elim h
    | brk => exact False.elim h
    | cont => exact False.elim h
    | ret u =>
      obtain ⟨v, H', os, bare, un, hok', r', q⟩ := h
      obtain rfl : v = .bl true := q
      obtain rfl : u = Value.bool true := r'
      have kept : ∀ b o, b ∉ cs.map (·.2) → s.heap.get? b = some o → s'.heap.get? b = some o := fun b o nb e => by
        cases q : hp0 K cs a vs ns b with
        | none => exact un.keep b o e q (by intro z; exact absurd (show b ∈ ([] : List Addr) from z) (by simp)) (by simp)
        | some u =>
          rcases hp0_cases q with ⟨z, _⟩ | ⟨_, z, _, rfl⟩
          · exact absurd z nb
          · have z2 := (hok' b _ (un.frzs b _ _ q)).1
            rw [z, ha] at e
            cases e
            exact z2
      have grown : ∀ {b : Addr}, b ∈ cs.map (·.2) → ∃ more : Array Value, s'.heap.get? b = some { cls := .none, data := .fields (#[] ++ more) } := fun {b} hb => by
        obtain ⟨p, hp, rfl⟩ := tab hb
        obtain ⟨more, z⟩ := un.tbls p.2 #[] (told p hp)
        exact ⟨more, hok' p.2 _ z⟩
      refine ⟨rfl, ⟨fun b o e => ?_, fun b o e => ?_⟩, os, bare⟩
      · by_cases hb : b ∈ cs.map (·.2)
        · obtain ⟨more, hm⟩ := grown hb
          obtain ⟨p, hp, rfl⟩ := tab hb
          rw [hT p hp] at e
          cases e
          exact .inr (.inl ⟨((C p hp).tab (hT p hp)).isCodeTable, rfl, #[], more, rfl, hm⟩)
        · exact .inl (kept b o hb e)
      · by_cases hb : b ∈ cs.map (·.2)
        · obtain ⟨more, hm⟩ := grown hb
          exact ⟨_, hm⟩
        · exact ⟨o, kept b o hb e⟩
end
end K67
set_option Elab.async false
set_option linter.all false
set_option maxRecDepth 100000
set_option maxHeartbeats 8000000
namespace K67
open PySem PySem.Spec PyProof.Rows L2 LamX
/-- what the end below asks: the law's def with its promise, and the five empty tables -/
def EndAt (P : Program) (w : World) (K : PySem.W.Frag) (mg : Str → Option Value) (fa : Addr) (h : Heap) : Prop :=
  ∃ (fd : FuncData) (cs : List (Addr × Addr)) (T : List (Addr × Str)), (∀ p ∈ cs, h.get? p.2 = some { cls := .none, data := .fields #[] }) ∧ (∀ p ∈ cs, K.lookup p.2 = none) ∧ (∀ p ∈ cs, PySem.W.CodeHd h p.1 p.2) ∧ (∀ (s : Shared) (u : Value), BindsTo s fd ⟨[u], []⟩ [("_law_cells", u)]) ∧
    (∀ p ∈ T, p.1 ∈ cs.map (·.2)) ∧ ∀ base : Heap, K.In base → base.Ns mainGlobals mg → (∀ p ∈ cs, TabB base mg p.1 p.2) → K67R.FnG P w K mg base 12 fa fd ["_law_cells"] (spLaw K T)
def five : List Str := ["both", "either", "without", "is_within", "first_apart"]
theorem all_mk {l : PySem.W.OpenLaw} {w : World} {K : PySem.W.Frag} {h : Heap} {mg : Str → Option Value} {fa : Addr} (X : K.In h) (G : h.Ns mainGlobals mg) (hfa : mg "law" = some (.ref fa)) (tabs : ∀ (x : Str) (c P : Addr), x ∈ five → PySem.W.tabIn K x = some (c, P) → PySem.W.CodeHd h c P ∧ h.get? P = some { cls := .none, data := .fields #[] })
    {f1 f2 f3 f4 f5 f6 f7 f8 f9 f10 f11 f12 f13 f14 f15 f16 f17 f18 f19 f20 f21 f22 f23 f24 f25 f26 f27 f28 f29 f30 f31 f32 f33 f34 f35 f36 f37 fm0 fm1 fm2 fm3 fm4 fm5 C : Addr}
    {od1 an1 od2 an2 od3 an3 od4 an4 od5 an5 od6 an6 od7 an7 od8 an8 od9 an9 od10 an10 od11 an11 od12 an12 od13 an13 od14 an14 od15 an15 od16 an16 od17 an17 od18 an18 od19 an19 od20 an20 od21 an21 od22 an22 od23 an23 od24 an24 od25 an25 od26 an26 od27 an27 od28 an28 od29 an29 od30 an30 od31 an31 od32 an32 od33 an33 od34 an34 od35 an35 od36 an36 od37 an37 odm0 anm0 odm1 anm1 odm2 anm2 odm3 anm3 odm4 anm4 odm5 anm5 : Option Addr}
    {sl1 sl2 sl3 sl4 sl5 sl6 sl7 sl8 sl9 sl10 sl11 sl12 sl13 sl14 sl15 sl16 sl17 sl18 sl19 sl20 sl21 sl22 sl23 sl24 sl25 sl26 sl27 sl28 sl29 sl30 sl31 sl32 sl33 sl34 sl35 sl36 sl37 slm0 slm1 slm2 slm3 slm4 slm5 : Array (Option Value)}
    {oc1 kV1 dc1 pm1 ct1 oc2 kV2 dc2 pm2 ct2 oc3 kV3 dc3 pm3 ct3 oc4 kV4 dc4 pm4 ct4 oc5 kV5 dc5 pm5 ct5 oc6 kV6 dc6 pm6 ct6 oc7 kV7 dc7 pm7 ct7 oc8 kV8 dc8 pm8 ct8 oc9 kV9 dc9 pm9 ct9 oc10 kV10 dc10 pm10 ct10 oc11 kV11 dc11 pm11 ct11 oc12 kV12 dc12 pm12 ct12 oc13 kV13 dc13 pm13 ct13 oc14 kV14 dc14 pm14 ct14 oc15 kV15 dc15 pm15 ct15 oc16 kV16 dc16 pm16 ct16 oc17 kV17 dc17 pm17 ct17 oc18 kV18 dc18 pm18 ct18 oc19 kV19 dc19 pm19 ct19 oc20 kV20 dc20 pm20 ct20 oc21 kV21 dc21 pm21 ct21 oc22 kV22 dc22 pm22 ct22 oc23 kV23 dc23 pm23 ct23 oc24 kV24 dc24 pm24 ct24 oc25 kV25 dc25 pm25 ct25 oc26 kV26 dc26 pm26 ct26 oc27 kV27 dc27 pm27 ct27 oc28 kV28 dc28 pm28 ct28 oc29 kV29 dc29 pm29 ct29 oc30 kV30 dc30 pm30 ct30 oc31 kV31 dc31 pm31 ct31 oc32 kV32 dc32 pm32 ct32 oc33 kV33 dc33 pm33 ct33 oc34 kV34 dc34 pm34 ct34 oc35 kV35 dc35 pm35 ct35 oc36 kV36 dc36 pm36 ct36 oc37 kV37 dc37 pm37 ct37 ocm0 kVm0 dcm0 pmm0 ctm0 ocm1 kVm1 dcm1 pmm1 ctm1 ocm2 kVm2 dcm2 pmm2 ctm2 ocm3 kVm3 dcm3 pmm3 ctm3 ocm4 kVm4 dcm4 pmm4 ctm4 ocm5 kVm5 dcm5 pmm5 ctm5 cd1 cd2 cd3 cd4 cd5 cd6 cd7 cd8 cd9 cd10 cd11 cd12 cd13 cd14 cd15 cd16 cd17 cd21 cd22 cd25 cd26 cd27 cd28 cd29 cd30 cd31 cd32 cd33 cd34 cd35 cd36 cd37 cdm0 cdm1 cdm2 cdm3 cdm4 cdm5 : Value}
    {cc18 Pt18 cc19 Pt19 cc20 Pt20 cc23 Pt23 cc24 Pt24 : Addr} {e18 e19 e20 e23 e24 : Value} {dd18 dd19 dd20 dd23 dd24 : Option Addr} {vs18 vs19 vs20 vs23 vs24 : Array Value} {sm18 sm19 sm20 sm23 sm24 : Array (Option Value)}
    {tmc : Tok} {p1 p2 p3 p4 : Addr} {r1 r2 r3 r4 : List Value}
    (aC : PySem.W.nsIn K mainGlobals "Circle" = some (some (.ref C)))
    (a1 : PySem.W.nsIn K mainGlobals "is_integer" = some (some (.ref f1)))
    (l1 : K.lookup f1 = some ⟨oc1, od1, .func (PySem.W.fnOf "is_integer" "is_integer" (defArgs (topS 9)) (defBody (topS 9)) (defScope (topS 9)) .none kV1 dc1 pm1 an1 cd1 ct1), sl1⟩)
    (c1 : PySem.W.codeIn K cd1 "is_integer" = true)
    (k1 : PySem.W.keepIn K (.ref f1) = true)
    (a2 : PySem.W.nsIn K mainGlobals "is_between" = some (some (.ref f2)))
    (l2 : K.lookup f2 = some ⟨oc2, od2, .func (PySem.W.fnOf "is_between" "is_between" (defArgs (topS 10)) (defBody (topS 10)) (defScope (topS 10)) .none kV2 dc2 pm2 an2 cd2 ct2), sl2⟩)
    (c2 : PySem.W.codeIn K cd2 "is_between" = true)
    (k2 : PySem.W.keepIn K (.ref f2) = true)
    (a3 : PySem.W.nsIn K mainGlobals "check_between" = some (some (.ref f3)))
    (l3 : K.lookup f3 = some ⟨oc3, od3, .func (PySem.W.fnOf "check_between" "check_between" (defArgs (topS 11)) (defBody (topS 11)) (defScope (topS 11)) .none kV3 dc3 pm3 an3 cd3 ct3), sl3⟩)
    (c3 : PySem.W.codeIn K cd3 "check_between" = true)
    (k3 : PySem.W.keepIn K (.ref f3) = true)
    (a4 : PySem.W.nsIn K mainGlobals "common_of" = some (some (.ref f4)))
    (l4 : K.lookup f4 = some ⟨oc4, od4, .func (PySem.W.fnOf "common_of" "common_of" (defArgs (topS 12)) (defBody (topS 12)) (defScope (topS 12)) .none kV4 dc4 pm4 an4 cd4 ct4), sl4⟩)
    (c4 : PySem.W.codeIn K cd4 "common_of" = true)
    (k4 : PySem.W.keepIn K (.ref f4) = true)
    (a5 : PySem.W.nsIn K mainGlobals "multiple_of" = some (some (.ref f5)))
    (l5 : K.lookup f5 = some ⟨oc5, od5, .func (PySem.W.fnOf "multiple_of" "multiple_of" (defArgs (topS 13)) (defBody (topS 13)) (defScope (topS 13)) .none kV5 dc5 pm5 an5 cd5 ct5), sl5⟩)
    (c5 : PySem.W.codeIn K cd5 "multiple_of" = true)
    (k5 : PySem.W.keepIn K (.ref f5) = true)
    (a6 : PySem.W.nsIn K mainGlobals "apart_of" = some (some (.ref f6)))
    (l6 : K.lookup f6 = some ⟨oc6, od6, .func (PySem.W.fnOf "apart_of" "apart_of" (defArgs (topS 14)) (defBody (topS 14)) (defScope (topS 14)) .none kV6 dc6 pm6 an6 cd6 ct6), sl6⟩)
    (c6 : PySem.W.codeIn K cd6 "apart_of" = true)
    (k6 : PySem.W.keepIn K (.ref f6) = true)
    (a7 : PySem.W.nsIn K mainGlobals "rising_fault" = some (some (.ref f7)))
    (l7 : K.lookup f7 = some ⟨oc7, od7, .func (PySem.W.fnOf "rising_fault" "rising_fault" (defArgs (topS 17)) (defBody (topS 17)) (defScope (topS 17)) .none kV7 dc7 pm7 an7 cd7 ct7), sl7⟩)
    (c7 : PySem.W.codeIn K cd7 "rising_fault" = true)
    (k7 : PySem.W.keepIn K (.ref f7) = true)
    (a8 : PySem.W.nsIn K mainGlobals "least_base" = some (some (.ref f8)))
    (l8 : K.lookup f8 = some ⟨oc8, od8, .func (PySem.W.fnOf "least_base" "least_base" (defArgs (topS 18)) (defBody (topS 18)) (defScope (topS 18)) .none kV8 dc8 pm8 an8 cd8 ct8), sl8⟩)
    (c8 : PySem.W.codeIn K cd8 "least_base" = true)
    (k8 : PySem.W.keepIn K (.ref f8) = true)
    (a9 : PySem.W.nsIn K mainGlobals "least_form" = some (some (.ref f9)))
    (l9 : K.lookup f9 = some ⟨oc9, od9, .func (PySem.W.fnOf "least_form" "least_form" (defArgs (topS 19)) (defBody (topS 19)) (defScope (topS 19)) .none kV9 dc9 pm9 an9 cd9 ct9), sl9⟩)
    (c9 : PySem.W.codeIn K cd9 "least_form" = true)
    (k9 : PySem.W.keepIn K (.ref f9) = true)
    (a10 : PySem.W.nsIn K mainGlobals "check_circle" = some (some (.ref f10)))
    (l10 : K.lookup f10 = some ⟨oc10, od10, .func (PySem.W.fnOf "check_circle" "check_circle" (defArgs (topS 22)) (defBody (topS 22)) (defScope (topS 22)) .none kV10 dc10 pm10 an10 cd10 ct10), sl10⟩)
    (c10 : PySem.W.codeIn K cd10 "check_circle" = true)
    (k10 : PySem.W.keepIn K (.ref f10) = true)
    (a11 : PySem.W.nsIn K mainGlobals "check_circles" = some (some (.ref f11)))
    (l11 : K.lookup f11 = some ⟨oc11, od11, .func (PySem.W.fnOf "check_circles" "check_circles" (defArgs (topS 23)) (defBody (topS 23)) (defScope (topS 23)) .none kV11 dc11 pm11 an11 cd11 ct11), sl11⟩)
    (c11 : PySem.W.codeIn K cd11 "check_circles" = true)
    (k11 : PySem.W.keepIn K (.ref f11) = true)
    (a12 : PySem.W.nsIn K mainGlobals "common_base" = some (some (.ref f12)))
    (l12 : K.lookup f12 = some ⟨oc12, od12, .func (PySem.W.fnOf "common_base" "common_base" (defArgs (topS 24)) (defBody (topS 24)) (defScope (topS 24)) .none kV12 dc12 pm12 an12 cd12 ct12), sl12⟩)
    (c12 : PySem.W.codeIn K cd12 "common_base" = true)
    (k12 : PySem.W.keepIn K (.ref f12) = true)
    (a13 : PySem.W.nsIn K mainGlobals "circle_with" = some (some (.ref f13)))
    (l13 : K.lookup f13 = some ⟨oc13, od13, .func (PySem.W.fnOf "circle_with" "circle_with" (defArgs (topS 25)) (defBody (topS 25)) (defScope (topS 25)) .none kV13 dc13 pm13 an13 cd13 ct13), sl13⟩)
    (c13 : PySem.W.codeIn K cd13 "circle_with" = true)
    (k13 : PySem.W.keepIn K (.ref f13) = true)
    (a14 : PySem.W.nsIn K mainGlobals "circle_by" = some (some (.ref f14)))
    (l14 : K.lookup f14 = some ⟨oc14, od14, .func (PySem.W.fnOf "circle_by" "circle_by" (defArgs (topS 26)) (defBody (topS 26)) (defScope (topS 26)) .none kV14 dc14 pm14 an14 cd14 ct14), sl14⟩)
    (c14 : PySem.W.codeIn K cd14 "circle_by" = true)
    (k14 : PySem.W.keepIn K (.ref f14) = true)
    (a15 : PySem.W.nsIn K mainGlobals "truths_of" = some (some (.ref f15)))
    (l15 : K.lookup f15 = some ⟨oc15, od15, .func (PySem.W.fnOf "truths_of" "truths_of" (defArgs (topS 27)) (defBody (topS 27)) (defScope (topS 27)) .none kV15 dc15 pm15 an15 cd15 ct15), sl15⟩)
    (c15 : PySem.W.codeIn K cd15 "truths_of" = true)
    (k15 : PySem.W.keepIn K (.ref f15) = true)
    (a16 : PySem.W.nsIn K mainGlobals "circle_of" = some (some (.ref f16)))
    (l16 : K.lookup f16 = some ⟨oc16, od16, .func (PySem.W.fnOf "circle_of" "circle_of" (defArgs (topS 28)) (defBody (topS 28)) (defScope (topS 28)) .none kV16 dc16 pm16 an16 cd16 ct16), sl16⟩)
    (c16 : PySem.W.codeIn K cd16 "circle_of" = true)
    (k16 : PySem.W.keepIn K (.ref f16) = true)
    (a17 : PySem.W.nsIn K mainGlobals "matched" = some (some (.ref f17)))
    (l17 : K.lookup f17 = some ⟨oc17, od17, .func (PySem.W.fnOf "matched" "matched" (defArgs (topS 29)) (defBody (topS 29)) (defScope (topS 29)) .none kV17 dc17 pm17 an17 cd17 ct17), sl17⟩)
    (c17 : PySem.W.codeIn K cd17 "matched" = true)
    (k17 : PySem.W.keepIn K (.ref f17) = true)
    (a18 : PySem.W.nsIn K mainGlobals "both" = some (some (.ref f18)))
    (l18 : K.lookup f18 = some ⟨oc18, od18, .func (PySem.W.fnOf "both" "both" (defArgs (topS 30)) (defBody (topS 30)) (defScope (topS 30)) .none kV18 dc18 pm18 an18 (.ref cc18) ct18), sl18⟩)
    (c18 : PySem.W.codeIn K (.ref cc18) "both" = true)
    (k18 : PySem.W.keepIn K (.ref f18) = true)
    (lc18 : K.lookup cc18 = some ⟨e18, dd18, .fields vs18, sm18⟩)
    (hv18 : vs18[11]? = some (.ref Pt18))
    (np18 : K.lookup Pt18 = none)
    (a19 : PySem.W.nsIn K mainGlobals "either" = some (some (.ref f19)))
    (l19 : K.lookup f19 = some ⟨oc19, od19, .func (PySem.W.fnOf "either" "either" (defArgs (topS 31)) (defBody (topS 31)) (defScope (topS 31)) .none kV19 dc19 pm19 an19 (.ref cc19) ct19), sl19⟩)
    (c19 : PySem.W.codeIn K (.ref cc19) "either" = true)
    (k19 : PySem.W.keepIn K (.ref f19) = true)
    (lc19 : K.lookup cc19 = some ⟨e19, dd19, .fields vs19, sm19⟩)
    (hv19 : vs19[11]? = some (.ref Pt19))
    (np19 : K.lookup Pt19 = none)
    (a20 : PySem.W.nsIn K mainGlobals "without" = some (some (.ref f20)))
    (l20 : K.lookup f20 = some ⟨oc20, od20, .func (PySem.W.fnOf "without" "without" (defArgs (topS 32)) (defBody (topS 32)) (defScope (topS 32)) .none kV20 dc20 pm20 an20 (.ref cc20) ct20), sl20⟩)
    (c20 : PySem.W.codeIn K (.ref cc20) "without" = true)
    (k20 : PySem.W.keepIn K (.ref f20) = true)
    (lc20 : K.lookup cc20 = some ⟨e20, dd20, .fields vs20, sm20⟩)
    (hv20 : vs20[11]? = some (.ref Pt20))
    (np20 : K.lookup Pt20 = none)
    (a21 : PySem.W.nsIn K mainGlobals "rest_of" = some (some (.ref f21)))
    (l21 : K.lookup f21 = some ⟨oc21, od21, .func (PySem.W.fnOf "rest_of" "rest_of" (defArgs (topS 33)) (defBody (topS 33)) (defScope (topS 33)) .none kV21 dc21 pm21 an21 cd21 ct21), sl21⟩)
    (c21 : PySem.W.codeIn K cd21 "rest_of" = true)
    (k21 : PySem.W.keepIn K (.ref f21) = true)
    (a22 : PySem.W.nsIn K mainGlobals "first_where" = some (some (.ref f22)))
    (l22 : K.lookup f22 = some ⟨oc22, od22, .func (PySem.W.fnOf "first_where" "first_where" (defArgs (topS 34)) (defBody (topS 34)) (defScope (topS 34)) .none kV22 dc22 pm22 an22 cd22 ct22), sl22⟩)
    (c22 : PySem.W.codeIn K cd22 "first_where" = true)
    (k22 : PySem.W.keepIn K (.ref f22) = true)
    (a23 : PySem.W.nsIn K mainGlobals "is_within" = some (some (.ref f23)))
    (l23 : K.lookup f23 = some ⟨oc23, od23, .func (PySem.W.fnOf "is_within" "is_within" (defArgs (topS 35)) (defBody (topS 35)) (defScope (topS 35)) .none kV23 dc23 pm23 an23 (.ref cc23) ct23), sl23⟩)
    (c23 : PySem.W.codeIn K (.ref cc23) "is_within" = true)
    (k23 : PySem.W.keepIn K (.ref f23) = true)
    (lc23 : K.lookup cc23 = some ⟨e23, dd23, .fields vs23, sm23⟩)
    (hv23 : vs23[11]? = some (.ref Pt23))
    (np23 : K.lookup Pt23 = none)
    (a24 : PySem.W.nsIn K mainGlobals "first_apart" = some (some (.ref f24)))
    (l24 : K.lookup f24 = some ⟨oc24, od24, .func (PySem.W.fnOf "first_apart" "first_apart" (defArgs (topS 36)) (defBody (topS 36)) (defScope (topS 36)) .none kV24 dc24 pm24 an24 (.ref cc24) ct24), sl24⟩)
    (c24 : PySem.W.codeIn K (.ref cc24) "first_apart" = true)
    (k24 : PySem.W.keepIn K (.ref f24) = true)
    (lc24 : K.lookup cc24 = some ⟨e24, dd24, .fields vs24, sm24⟩)
    (hv24 : vs24[11]? = some (.ref Pt24))
    (np24 : K.lookup Pt24 = none)
    (a25 : PySem.W.nsIn K mainGlobals "_law_keg" = some (some (.ref f25)))
    (l25 : K.lookup f25 = some ⟨oc25, od25, .func (PySem.W.fnOf "_law_keg" "_law_keg" (defArgs (topS 38)) (defBody (topS 38)) (defScope (topS 38)) .none kV25 dc25 pm25 an25 cd25 ct25), sl25⟩)
    (c25 : PySem.W.codeIn K cd25 "_law_keg" = true)
    (k25 : PySem.W.keepIn K (.ref f25) = true)
    (a26 : PySem.W.nsIn K mainGlobals "_law_tap" = some (some (.ref f26)))
    (l26 : K.lookup f26 = some ⟨oc26, od26, .func (PySem.W.fnOf "_law_tap" "_law_tap" (defArgs (topS 39)) (defBody (topS 39)) (defScope (topS 39)) .none kV26 dc26 pm26 an26 cd26 ct26), sl26⟩)
    (c26 : PySem.W.codeIn K cd26 "_law_tap" = true)
    (k26 : PySem.W.keepIn K (.ref f26) = true)
    (a27 : PySem.W.nsIn K mainGlobals "_law_any" = some (some (.ref f27)))
    (l27 : K.lookup f27 = some ⟨oc27, od27, .func (PySem.W.fnOf "_law_any" "_law_any" (defArgs (topS 40)) (defBody (topS 40)) (defScope (topS 40)) .none kV27 dc27 pm27 an27 cd27 ct27), sl27⟩)
    (c27 : PySem.W.codeIn K cd27 "_law_any" = true)
    (k27 : PySem.W.keepIn K (.ref f27) = true)
    (a28 : PySem.W.nsIn K mainGlobals "_law_set" = some (some (.ref f28)))
    (l28 : K.lookup f28 = some ⟨oc28, od28, .func (PySem.W.fnOf "_law_set" "_law_set" (defArgs (topS 41)) (defBody (topS 41)) (defScope (topS 41)) .none kV28 dc28 pm28 an28 cd28 ct28), sl28⟩)
    (c28 : PySem.W.codeIn K cd28 "_law_set" = true)
    (k28 : PySem.W.keepIn K (.ref f28) = true)
    (a29 : PySem.W.nsIn K mainGlobals "_law_has" = some (some (.ref f29)))
    (l29 : K.lookup f29 = some ⟨oc29, od29, .func (PySem.W.fnOf "_law_has" "_law_has" (defArgs (topS 42)) (defBody (topS 42)) (defScope (topS 42)) .none kV29 dc29 pm29 an29 cd29 ct29), sl29⟩)
    (c29 : PySem.W.codeIn K cd29 "_law_has" = true)
    (k29 : PySem.W.keepIn K (.ref f29) = true)
    (a30 : PySem.W.nsIn K mainGlobals "_law_flags" = some (some (.ref f30)))
    (l30 : K.lookup f30 = some ⟨oc30, od30, .func (PySem.W.fnOf "_law_flags" "_law_flags" (defArgs (topS 43)) (defBody (topS 43)) (defScope (topS 43)) .none kV30 dc30 pm30 an30 cd30 ct30), sl30⟩)
    (c30 : PySem.W.codeIn K cd30 "_law_flags" = true)
    (k30 : PySem.W.keepIn K (.ref f30) = true)
    (a31 : PySem.W.nsIn K mainGlobals "_law_form" = some (some (.ref f31)))
    (l31 : K.lookup f31 = some ⟨oc31, od31, .func (PySem.W.fnOf "_law_form" "_law_form" (defArgs (topS 44)) (defBody (topS 44)) (defScope (topS 44)) .none kV31 dc31 pm31 an31 cd31 ct31), sl31⟩)
    (c31 : PySem.W.codeIn K cd31 "_law_form" = true)
    (k31 : PySem.W.keepIn K (.ref f31) = true)
    (a32 : PySem.W.nsIn K mainGlobals "_law_shown" = some (some (.ref f32)))
    (l32 : K.lookup f32 = some ⟨oc32, od32, .func (PySem.W.fnOf "_law_shown" "_law_shown" (defArgs (topS 45)) (defBody (topS 45)) (defScope (topS 45)) .none kV32 dc32 pm32 an32 cd32 ct32), sl32⟩)
    (c32 : PySem.W.codeIn K cd32 "_law_shown" = true)
    (k32 : PySem.W.keepIn K (.ref f32) = true)
    (a33 : PySem.W.nsIn K mainGlobals "_law_circle" = some (some (.ref f33)))
    (l33 : K.lookup f33 = some ⟨oc33, od33, .func (PySem.W.fnOf "_law_circle" "_law_circle" (defArgs (topS 46)) (defBody (topS 46)) (defScope (topS 46)) .none kV33 dc33 pm33 an33 cd33 ct33), sl33⟩)
    (c33 : PySem.W.codeIn K cd33 "_law_circle" = true)
    (k33 : PySem.W.keepIn K (.ref f33) = true)
    (a34 : PySem.W.nsIn K mainGlobals "_law_pair_right" = some (some (.ref f34)))
    (l34 : K.lookup f34 = some ⟨oc34, od34, .func (PySem.W.fnOf "_law_pair_right" "_law_pair_right" (defArgs (topS 47)) (defBody (topS 47)) (defScope (topS 47)) .none kV34 dc34 pm34 an34 cd34 ct34), sl34⟩)
    (c34 : PySem.W.codeIn K cd34 "_law_pair_right" = true)
    (k34 : PySem.W.keepIn K (.ref f34) = true)
    (a35 : PySem.W.nsIn K mainGlobals "_law_order_right" = some (some (.ref f35)))
    (l35 : K.lookup f35 = some ⟨oc35, od35, .func (PySem.W.fnOf "_law_order_right" "_law_order_right" (defArgs (topS 48)) (defBody (topS 48)) (defScope (topS 48)) .none kV35 dc35 pm35 an35 cd35 ct35), sl35⟩)
    (c35 : PySem.W.codeIn K cd35 "_law_order_right" = true)
    (k35 : PySem.W.keepIn K (.ref f35) = true)
    (a36 : PySem.W.nsIn K mainGlobals "_law_right" = some (some (.ref f36)))
    (l36 : K.lookup f36 = some ⟨oc36, od36, .func (PySem.W.fnOf "_law_right" "_law_right" (defArgs (topS 49)) (defBody (topS 49)) (defScope (topS 49)) .none kV36 dc36 pm36 an36 cd36 ct36), sl36⟩)
    (c36 : PySem.W.codeIn K cd36 "_law_right" = true)
    (k36 : PySem.W.keepIn K (.ref f36) = true)
    (a37 : PySem.W.nsIn K mainGlobals "law" = some (some (.ref f37)))
    (l37 : K.lookup f37 = some ⟨oc37, od37, .func (PySem.W.fnOf "law" "law" (defArgs (topS 50)) (defBody (topS 50)) (defScope (topS 50)) .none kV37 dc37 pm37 an37 cd37 ct37), sl37⟩)
    (c37 : PySem.W.codeIn K cd37 "law" = true)
    (k37 : PySem.W.keepIn K (.ref f37) = true)
    (nd : [Pt18, Pt19, Pt20, Pt23, Pt24].Nodup)
    (am0 : PySem.W.findIn K (.ref C) "__init__" = some (some (.ref fm0)))
    (im0 : PySem.W.isFn K (.ref fm0) = true)
    (lm0 : K.lookup fm0 = some ⟨ocm0, odm0, .func (PySem.W.fnOf "__init__" "Circle.__init__" (defArgs (inClass (topS 20) 0)) (defBody (inClass (topS 20) 0)) (defScope (inClass (topS 20) 0)) .none kVm0 dcm0 pmm0 anm0 cdm0 ctm0), slm0⟩)
    (cm0 : PySem.W.codeIn K cdm0 "Circle.__init__" = true)
    (km0 : PySem.W.keepIn K (.ref fm0) = true)
    (am1 : PySem.W.findIn K (.ref C) "early" = some (some (.ref p1)))
    (gm1 : PySem.W.specialIn K (.ref p1) "__get__" = some (some (.builtin "property.__get__")))
    (tm1 : PySem.W.takesIn K (.ref p1) = some true)
    (rm1 : PySem.W.recIn K p1 "property" = some (.ref fm1 :: r1))
    (lm1 : K.lookup fm1 = some ⟨ocm1, odm1, .func (PySem.W.fnOf "early" "Circle.early" (defArgs (inClass (topS 20) 1)) (defBody (inClass (topS 20) 1)) (defScope (inClass (topS 20) 1)) .none kVm1 dcm1 pmm1 anm1 cdm1 ctm1), slm1⟩)
    (cm1 : PySem.W.codeIn K cdm1 "Circle.early" = true)
    (km1 : PySem.W.keepIn K (.ref fm1) = true)
    (am2 : PySem.W.findIn K (.ref C) "start" = some (some (.ref p2)))
    (gm2 : PySem.W.specialIn K (.ref p2) "__get__" = some (some (.builtin "property.__get__")))
    (tm2 : PySem.W.takesIn K (.ref p2) = some true)
    (rm2 : PySem.W.recIn K p2 "property" = some (.ref fm2 :: r2))
    (lm2 : K.lookup fm2 = some ⟨ocm2, odm2, .func (PySem.W.fnOf "start" "Circle.start" (defArgs (inClass (topS 20) 2)) (defBody (inClass (topS 20) 2)) (defScope (inClass (topS 20) 2)) .none kVm2 dcm2 pmm2 anm2 cdm2 ctm2), slm2⟩)
    (cm2 : PySem.W.codeIn K cdm2 "Circle.start" = true)
    (km2 : PySem.W.keepIn K (.ref fm2) = true)
    (am3 : PySem.W.findIn K (.ref C) "base" = some (some (.ref p3)))
    (gm3 : PySem.W.specialIn K (.ref p3) "__get__" = some (some (.builtin "property.__get__")))
    (tm3 : PySem.W.takesIn K (.ref p3) = some true)
    (rm3 : PySem.W.recIn K p3 "property" = some (.ref fm3 :: r3))
    (lm3 : K.lookup fm3 = some ⟨ocm3, odm3, .func (PySem.W.fnOf "base" "Circle.base" (defArgs (inClass (topS 20) 3)) (defBody (inClass (topS 20) 3)) (defScope (inClass (topS 20) 3)) .none kVm3 dcm3 pmm3 anm3 cdm3 ctm3), slm3⟩)
    (cm3 : PySem.W.codeIn K cdm3 "Circle.base" = true)
    (km3 : PySem.W.keepIn K (.ref fm3) = true)
    (am4 : PySem.W.findIn K (.ref C) "rests" = some (some (.ref p4)))
    (gm4 : PySem.W.specialIn K (.ref p4) "__get__" = some (some (.builtin "property.__get__")))
    (tm4 : PySem.W.takesIn K (.ref p4) = some true)
    (rm4 : PySem.W.recIn K p4 "property" = some (.ref fm4 :: r4))
    (lm4 : K.lookup fm4 = some ⟨ocm4, odm4, .func (PySem.W.fnOf "rests" "Circle.rests" (defArgs (inClass (topS 20) 4)) (defBody (inClass (topS 20) 4)) (defScope (inClass (topS 20) 4)) .none kVm4 dcm4 pmm4 anm4 cdm4 ctm4), slm4⟩)
    (cm4 : PySem.W.codeIn K cdm4 "Circle.rests" = true)
    (km4 : PySem.W.keepIn K (.ref fm4) = true)
    (am5 : PySem.W.findIn K (.ref C) "__eq__" = some (some (.ref fm5)))
    (im5 : PySem.W.isFn K (.ref fm5) = true)
    (lm5 : K.lookup fm5 = some ⟨ocm5, odm5, .func (PySem.W.fnOf "__eq__" "Circle.__eq__" (defArgs (inClass (topS 20) 6)) (defBody (inClass (topS 20) 6)) (defScope (inClass (topS 20) 6)) .none kVm5 dcm5 pmm5 anm5 cdm5 ctm5), slm5⟩)
    (cm5 : PySem.W.codeIn K cdm5 "Circle.__eq__" = true)
    (km5 : PySem.W.keepIn K (.ref fm5) = true)
    (pgC : PySem.W.plainGet K C Str.empty = true)
    (hdC : PySem.W.hasDictIn K C = true)
    (poC : PySem.W.plainOver K C = true)
    (saC : PySem.W.findIn K (.ref C) "__setattr__" = some (some (.builtin "object.__setattr__")))
    (mkC : PySem.W.makesIn K C = true)
    (kcC : PySem.W.keepIn K (.ref C) = true)
    (nF : PySem.W.findIn K (.ref C) "form" = some none)
    (neC : PySem.W.findIn K (.ref C) "__ne__" = some (some (.builtin "object.__ne__")))
    (moC : PySem.W.mroIn K C (.type "object") = some true)
    (ccC : PySem.W.findIn K (.ref C) "__class__" = some (some (.builtin "object.__class__")))
    (cgC : PySem.W.specialIn K (.builtin "object.__class__") "__get__" = some (some (.builtin "getset_descriptor.__get__")))
    (ctC : PySem.W.takesIn K (.builtin "object.__class__") = some true)
    (mc : PySem.W.nsIn K mainGlobals "MOST_CIRCLE" = some (some (.int 20000 tmc)))
    (z_isinstance : PySem.W.nsIn K mainGlobals "isinstance" = some none)
    (z_int : PySem.W.nsIn K mainGlobals "int" = some none)
    (z_bool : PySem.W.nsIn K mainGlobals "bool" = some none)
    (z_abs : PySem.W.nsIn K mainGlobals "abs" = some none)
    (z_tuple : PySem.W.nsIn K mainGlobals "tuple" = some none)
    (z_enumerate : PySem.W.nsIn K mainGlobals "enumerate" = some none)
    (z_dict : PySem.W.nsIn K mainGlobals "dict" = some none)
    (z_all : PySem.W.nsIn K mainGlobals "all" = some none)
    (z_range : PySem.W.nsIn K mainGlobals "range" = some none)
    (z_list : PySem.W.nsIn K mainGlobals "list" = some none)
    (z_len : PySem.W.nsIn K mainGlobals "len" = some none)
    (z_sorted : PySem.W.nsIn K mainGlobals "sorted" = some none)
    (z_max : PySem.W.nsIn K mainGlobals "max" = some none)
    (z_min : PySem.W.nsIn K mainGlobals "min" = some none)
    (z_zip : PySem.W.nsIn K mainGlobals "zip" = some none)
    (z_set : PySem.W.nsIn K mainGlobals "set" = some none)
    (z_repr : PySem.W.nsIn K mainGlobals "repr" = some none)
    (z_divmod : PySem.W.nsIn K mainGlobals "divmod" = some none)
    : EndAt l.prog w K mg fa h := by
  have e := hfa.symm.trans (PySem.W.mg_of X G a37)
  cases e
  have B : Bt mg := ⟨PySem.W.mg_none_of X G z_isinstance, PySem.W.mg_none_of X G z_int, PySem.W.mg_none_of X G z_bool, PySem.W.mg_none_of X G z_abs, PySem.W.mg_none_of X G z_tuple, PySem.W.mg_none_of X G z_enumerate, PySem.W.mg_none_of X G z_dict, PySem.W.mg_none_of X G z_all, PySem.W.mg_none_of X G z_range, PySem.W.mg_none_of X G z_list, PySem.W.mg_none_of X G z_len, PySem.W.mg_none_of X G z_sorted, PySem.W.mg_none_of X G z_max, PySem.W.mg_none_of X G z_min, PySem.W.mg_none_of X G z_zip, PySem.W.mg_none_of X G z_set, PySem.W.mg_none_of X G z_repr, PySem.W.mg_none_of X G z_divmod⟩
  have T : Ct K mg C := ⟨⟨pgC, hdC, poC, saC⟩, nF, PySem.W.mg_of X G aC, ⟨_, PySem.W.mg_of X G mc⟩, ccC, cgC, ctC, moC⟩
  have F1 := fun_mk (x := "is_integer") (qual := "is_integer") (st := topS 9) l1 c1 k1
  have b1 := F1.binds (ps := ["value"]) fun _ _ _ _ _ _ us hl => match us, hl with | [_], _ => rfl
  have F2 := fun_mk (x := "is_between") (qual := "is_between") (st := topS 10) l2 c2 k2
  have b2 := F2.binds (ps := ["value", "least", "most"]) fun _ _ _ _ _ _ us hl => match us, hl with | [_, _, _], _ => rfl
  have F3 := fun_mk (x := "check_between") (qual := "check_between") (st := topS 11) l3 c3 k3
  have b3 := F3.binds (ps := ["value", "least", "most"]) fun _ _ _ _ _ _ us hl => match us, hl with | [_, _, _], _ => rfl
  have F4 := fun_mk (x := "common_of") (qual := "common_of") (st := topS 12) l4 c4 k4
  have b4 := F4.binds (ps := ["one", "other"]) fun _ _ _ _ _ _ us hl => match us, hl with | [_, _], _ => rfl
  have F5 := fun_mk (x := "multiple_of") (qual := "multiple_of") (st := topS 13) l5 c5 k5
  have b5 := F5.binds (ps := ["one", "other"]) fun _ _ _ _ _ _ us hl => match us, hl with | [_, _], _ => rfl
  have F6 := fun_mk (x := "apart_of") (qual := "apart_of") (st := topS 14) l6 c6 k6
  have b6 := F6.binds (ps := ["number"]) fun _ _ _ _ _ _ us hl => match us, hl with | [_], _ => rfl
  have F7 := fun_mk (x := "rising_fault") (qual := "rising_fault") (st := topS 17) l7 c7 k7
  have b7 := F7.binds (ps := ["value", "most"]) fun _ _ _ _ _ _ us hl => match us, hl with | [_, _], _ => rfl
  have F8 := fun_mk (x := "least_base") (qual := "least_base") (st := topS 18) l8 c8 k8
  have b8 := F8.binds (ps := ["base", "rests"]) fun _ _ _ _ _ _ us hl => match us, hl with | [_, _], _ => rfl
  have F9 := fun_mk (x := "least_form") (qual := "least_form") (st := topS 19) l9 c9 k9
  have b9 := F9.binds (ps := ["early", "start", "base", "rests"]) fun _ _ _ _ _ _ us hl => match us, hl with | [_, _, _, _], _ => rfl
  have F10 := fun_mk (x := "check_circle") (qual := "check_circle") (st := topS 22) l10 c10 k10
  have b10 := F10.binds (ps := ["value"]) fun _ _ _ _ _ _ us hl => match us, hl with | [_], _ => rfl
  have F11 := fun_mk (x := "check_circles") (qual := "check_circles") (st := topS 23) l11 c11 k11
  have b11 := F11.binds (ps := ["one", "other"]) fun _ _ _ _ _ _ us hl => match us, hl with | [_, _], _ => rfl
  have F12 := fun_mk (x := "common_base") (qual := "common_base") (st := topS 24) l12 c12 k12
  have b12 := F12.binds (ps := ["one", "other"]) fun _ _ _ _ _ _ us hl => match us, hl with | [_, _], _ => rfl
  have F13 := fun_mk (x := "circle_with") (qual := "circle_with") (st := topS 25) l13 c13 k13
  have b13 := F13.binds (ps := ["early", "start", "base", "rests"]) fun _ _ _ _ _ _ us hl => match us, hl with | [_, _, _, _], _ => rfl
  have F14 := fun_mk (x := "circle_by") (qual := "circle_by") (st := topS 26) l14 c14 k14
  have b14 := F14.binds (ps := ["truths", "start", "base"]) fun _ _ _ _ _ _ us hl => match us, hl with | [_, _, _], _ => rfl
  have F15 := fun_mk (x := "truths_of") (qual := "truths_of") (st := topS 27) l15 c15 k15
  have b15 := F15.binds (ps := ["one", "many"]) fun _ _ _ _ _ _ us hl => match us, hl with | [_, _], _ => rfl
  have F16 := fun_mk (x := "circle_of") (qual := "circle_of") (st := topS 28) l16 c16 k16
  have b16 := F16.binds (ps := ["values"]) fun _ _ _ _ _ _ us hl => match us, hl with | [_], _ => rfl
  have F17 := fun_mk (x := "matched") (qual := "matched") (st := topS 29) l17 c17 k17
  have b17 := F17.binds (ps := ["one", "other", "told"]) fun _ _ _ _ _ _ us hl => match us, hl with | [_, _, _], _ => rfl
  have F18 : FunC K "both" "both" (topS 30) f18 _ cc18 := ⟨⟨oc18, od18, kV18, dc18, pm18, an18, ct18, sl18, rfl, l18, c18⟩, k18⟩
  have b18 := F18.toFun.binds (ps := ["one", "other"]) fun _ _ _ _ _ _ us hl => match us, hl with | [_, _], _ => rfl
  have t18 := tabs "both" cc18 Pt18 (by decide) (tab_in a18 l18 rfl lc18 hv18)
  have F19 : FunC K "either" "either" (topS 31) f19 _ cc19 := ⟨⟨oc19, od19, kV19, dc19, pm19, an19, ct19, sl19, rfl, l19, c19⟩, k19⟩
  have b19 := F19.toFun.binds (ps := ["one", "other"]) fun _ _ _ _ _ _ us hl => match us, hl with | [_, _], _ => rfl
  have t19 := tabs "either" cc19 Pt19 (by decide) (tab_in a19 l19 rfl lc19 hv19)
  have F20 : FunC K "without" "without" (topS 32) f20 _ cc20 := ⟨⟨oc20, od20, kV20, dc20, pm20, an20, ct20, sl20, rfl, l20, c20⟩, k20⟩
  have b20 := F20.toFun.binds (ps := ["one", "other"]) fun _ _ _ _ _ _ us hl => match us, hl with | [_, _], _ => rfl
  have t20 := tabs "without" cc20 Pt20 (by decide) (tab_in a20 l20 rfl lc20 hv20)
  have F21 := fun_mk (x := "rest_of") (qual := "rest_of") (st := topS 33) l21 c21 k21
  have b21 := F21.binds (ps := ["one"]) fun _ _ _ _ _ _ us hl => match us, hl with | [_], _ => rfl
  have F22 := fun_mk (x := "first_where") (qual := "first_where") (st := topS 34) l22 c22 k22
  have b22 := F22.binds (ps := ["one", "other", "told"]) fun _ _ _ _ _ _ us hl => match us, hl with | [_, _, _], _ => rfl
  have F23 : FunC K "is_within" "is_within" (topS 35) f23 _ cc23 := ⟨⟨oc23, od23, kV23, dc23, pm23, an23, ct23, sl23, rfl, l23, c23⟩, k23⟩
  have b23 := F23.toFun.binds (ps := ["one", "other"]) fun _ _ _ _ _ _ us hl => match us, hl with | [_, _], _ => rfl
  have t23 := tabs "is_within" cc23 Pt23 (by decide) (tab_in a23 l23 rfl lc23 hv23)
  have F24 : FunC K "first_apart" "first_apart" (topS 36) f24 _ cc24 := ⟨⟨oc24, od24, kV24, dc24, pm24, an24, ct24, sl24, rfl, l24, c24⟩, k24⟩
  have b24 := F24.toFun.binds (ps := ["one", "other"]) fun _ _ _ _ _ _ us hl => match us, hl with | [_, _], _ => rfl
  have t24 := tabs "first_apart" cc24 Pt24 (by decide) (tab_in a24 l24 rfl lc24 hv24)
  have F25 := fun_mk (x := "_law_keg") (qual := "_law_keg") (st := topS 38) l25 c25 k25
  have b25 := F25.binds (ps := ["_law_cells", "_law_at"]) fun _ _ _ _ _ _ us hl => match us, hl with | [_, _], _ => rfl
  have F26 := fun_mk (x := "_law_tap") (qual := "_law_tap") (st := topS 39) l26 c26 k26
  have b26 := F26.binds (ps := ["_law_keg_here", "_law_upto"]) fun _ _ _ _ _ _ us hl => match us, hl with | [_, _], _ => rfl
  have F27 := fun_mk (x := "_law_any") (qual := "_law_any") (st := topS 40) l27 c27 k27
  have b27 := F27.binds (ps := ["_law_keg_here", "_law_things"]) fun _ _ _ _ _ _ us hl => match us, hl with | [_, _], _ => rfl
  have F28 := fun_mk (x := "_law_set") (qual := "_law_set") (st := topS 41) l28 c28 k28
  have b28 := F28.binds (ps := ["_law_keg_here", "_law_most"]) fun _ _ _ _ _ _ us hl => match us, hl with | [_, _], _ => rfl
  have F29 := fun_mk (x := "_law_has") (qual := "_law_has") (st := topS 42) l29 c29 k29
  have b29 := F29.binds (ps := ["_law_c", "_law_x"]) fun _ _ _ _ _ _ us hl => match us, hl with | [_, _], _ => rfl
  have F30 := fun_mk (x := "_law_flags") (qual := "_law_flags") (st := topS 43) l30 c30 k30
  have b30 := F30.binds (ps := ["_law_c", "_law_wide"]) fun _ _ _ _ _ _ us hl => match us, hl with | [_, _], _ => rfl
  have F31 := fun_mk (x := "_law_form") (qual := "_law_form") (st := topS 44) l31 c31 k31
  have b31 := F31.binds (ps := ["_law_flags_here"]) fun _ _ _ _ _ _ us hl => match us, hl with | [_], _ => rfl
  have F32 := fun_mk (x := "_law_shown") (qual := "_law_shown") (st := topS 45) l32 c32 k32
  have b32 := F32.binds (ps := ["_law_circle_here"]) fun _ _ _ _ _ _ us hl => match us, hl with | [_], _ => rfl
  have F33 := fun_mk (x := "_law_circle") (qual := "_law_circle") (st := topS 46) l33 c33 k33
  have b33 := F33.binds (ps := ["_law_c"]) fun _ _ _ _ _ _ us hl => match us, hl with | [_], _ => rfl
  have F34 := fun_mk (x := "_law_pair_right") (qual := "_law_pair_right") (st := topS 47) l34 c34 k34
  have b34 := F34.binds (ps := ["_law_c", "_law_d"]) fun _ _ _ _ _ _ us hl => match us, hl with | [_, _], _ => rfl
  have F35 := fun_mk (x := "_law_order_right") (qual := "_law_order_right") (st := topS 48) l35 c35 k35
  have b35 := F35.binds (ps := ["_law_c", "_law_d"]) fun _ _ _ _ _ _ us hl => match us, hl with | [_, _], _ => rfl
  have F36 := fun_mk (x := "_law_right") (qual := "_law_right") (st := topS 49) l36 c36 k36
  have b36 := F36.binds (ps := ["_law_keg_here"]) fun _ _ _ _ _ _ us hl => match us, hl with | [_], _ => rfl
  have F37 := fun_mk (x := "law") (qual := "law") (st := topS 50) l37 c37 k37
  have b37 := F37.binds (ps := ["_law_cells"]) fun _ _ _ _ _ _ us hl => match us, hl with | [_], _ => rfl
  have Fm0 := fun_mk (x := "__init__") (qual := "Circle.__init__") (st := inClass (topS 20) 0) lm0 cm0 km0
  have bm0 := Fm0.binds (ps := ["self", "early", "start", "base", "rests"]) fun _ _ _ _ _ _ us hl => match us, hl with | [_, _, _, _, _], _ => rfl
  have Fm1 := fun_mk (x := "early") (qual := "Circle.early") (st := inClass (topS 20) 1) lm1 cm1 km1
  have bm1 := Fm1.binds (ps := ["self"]) fun _ _ _ _ _ _ us hl => match us, hl with | [_], _ => rfl
  have Fm2 := fun_mk (x := "start") (qual := "Circle.start") (st := inClass (topS 20) 2) lm2 cm2 km2
  have bm2 := Fm2.binds (ps := ["self"]) fun _ _ _ _ _ _ us hl => match us, hl with | [_], _ => rfl
  have Fm3 := fun_mk (x := "base") (qual := "Circle.base") (st := inClass (topS 20) 3) lm3 cm3 km3
  have bm3 := Fm3.binds (ps := ["self"]) fun _ _ _ _ _ _ us hl => match us, hl with | [_], _ => rfl
  have Fm4 := fun_mk (x := "rests") (qual := "Circle.rests") (st := inClass (topS 20) 4) lm4 cm4 km4
  have bm4 := Fm4.binds (ps := ["self"]) fun _ _ _ _ _ _ us hl => match us, hl with | [_], _ => rfl
  have Fm5 := fun_mk (x := "__eq__") (qual := "Circle.__eq__") (st := inClass (topS 20) 6) lm5 cm5 km5
  have bm5 := Fm5.binds (ps := ["self", "other"]) fun _ _ _ _ _ _ us hl => match us, hl with | [_, _], _ => rfl
  refine ⟨PySem.W.fnOf "law" "law" (defArgs (topS 50)) (defBody (topS 50)) (defScope (topS 50)) .none kV37 dc37 pm37 an37 cd37 ct37, [(cc18, Pt18), (cc19, Pt19), (cc20, Pt20), (cc23, Pt23), (cc24, Pt24)], [(Pt18, ("both" : Str) ++ ".<locals>." ++ "<lambda>"), (Pt19, ("either" : Str) ++ ".<locals>." ++ "<lambda>"), (Pt20, ("without" : Str) ++ ".<locals>." ++ "<lambda>"), (Pt23, ("is_within" : Str) ++ ".<locals>." ++ "<lambda>"), (Pt24, ("first_apart" : Str) ++ ".<locals>." ++ "<lambda>")], ?_, ?_, ?_, fun s v => .of_eq rfl, ?_, fun base _ _ TB => ?_⟩
  · intro p hp
    simp only [List.mem_cons, List.not_mem_nil, or_false] at hp
    rcases hp with rfl | rfl | rfl | rfl | rfl
    · exact t18.2
    · exact t19.2
    · exact t20.2
    · exact t23.2
    · exact t24.2
  · intro p hp
    simp only [List.mem_cons, List.not_mem_nil, or_false] at hp
    rcases hp with rfl | rfl | rfl | rfl | rfl
    · exact np18
    · exact np19
    · exact np20
    · exact np23
    · exact np24
  · intro p hp
    simp only [List.mem_cons, List.not_mem_nil, or_false] at hp
    rcases hp with rfl | rfl | rfl | rfl | rfl
    · exact t18.1
    · exact t19.1
    · exact t20.1
    · exact t23.1
    · exact t24.1
  · intro p hp
    simp only [List.mem_cons, List.not_mem_nil, or_false] at hp
    rcases hp with rfl | rfl | rfl | rfl | rfl
    · exact (by simp)
    · exact (by simp)
    · exact (by simp)
    · exact (by simp)
    · exact (by simp)
  · simp only [List.nodup_cons, List.mem_cons, List.not_mem_nil, or_false, not_or] at nd
    obtain ⟨⟨n12, n13, n14, n15⟩, ⟨n23, n24, n25⟩, ⟨n34, n35⟩, n45, _⟩ := nd
    have TB18 : Tb [(Pt18, ("both" : Str) ++ ".<locals>." ++ "<lambda>"), (Pt19, ("either" : Str) ++ ".<locals>." ++ "<lambda>"), (Pt20, ("without" : Str) ++ ".<locals>." ++ "<lambda>"), (Pt23, ("is_within" : Str) ++ ".<locals>." ++ "<lambda>"), (Pt24, ("first_apart" : Str) ++ ".<locals>." ++ "<lambda>")] base mg cc18 Pt18 "both" := by
      refine ⟨TB (cc18, Pt18) (by simp), by simp, ?_⟩
      intro p hp hq
      simp only [List.mem_cons, List.not_mem_nil, or_false] at hp
      rcases hp with rfl | rfl | rfl | rfl | rfl
      · rfl
      · exact absurd hq.symm n12
      · exact absurd hq.symm n13
      · exact absurd hq.symm n14
      · exact absurd hq.symm n15
    have TB19 : Tb [(Pt18, ("both" : Str) ++ ".<locals>." ++ "<lambda>"), (Pt19, ("either" : Str) ++ ".<locals>." ++ "<lambda>"), (Pt20, ("without" : Str) ++ ".<locals>." ++ "<lambda>"), (Pt23, ("is_within" : Str) ++ ".<locals>." ++ "<lambda>"), (Pt24, ("first_apart" : Str) ++ ".<locals>." ++ "<lambda>")] base mg cc19 Pt19 "either" := by
      refine ⟨TB (cc19, Pt19) (by simp), by simp, ?_⟩
      intro p hp hq
      simp only [List.mem_cons, List.not_mem_nil, or_false] at hp
      rcases hp with rfl | rfl | rfl | rfl | rfl
      · exact absurd hq n12
      · rfl
      · exact absurd hq.symm n23
      · exact absurd hq.symm n24
      · exact absurd hq.symm n25
    have TB20 : Tb [(Pt18, ("both" : Str) ++ ".<locals>." ++ "<lambda>"), (Pt19, ("either" : Str) ++ ".<locals>." ++ "<lambda>"), (Pt20, ("without" : Str) ++ ".<locals>." ++ "<lambda>"), (Pt23, ("is_within" : Str) ++ ".<locals>." ++ "<lambda>"), (Pt24, ("first_apart" : Str) ++ ".<locals>." ++ "<lambda>")] base mg cc20 Pt20 "without" := by
      refine ⟨TB (cc20, Pt20) (by simp), by simp, ?_⟩
      intro p hp hq
      simp only [List.mem_cons, List.not_mem_nil, or_false] at hp
      rcases hp with rfl | rfl | rfl | rfl | rfl
      · exact absurd hq n13
      · exact absurd hq n23
      · rfl
      · exact absurd hq.symm n34
      · exact absurd hq.symm n35
    have TB23 : Tb [(Pt18, ("both" : Str) ++ ".<locals>." ++ "<lambda>"), (Pt19, ("either" : Str) ++ ".<locals>." ++ "<lambda>"), (Pt20, ("without" : Str) ++ ".<locals>." ++ "<lambda>"), (Pt23, ("is_within" : Str) ++ ".<locals>." ++ "<lambda>"), (Pt24, ("first_apart" : Str) ++ ".<locals>." ++ "<lambda>")] base mg cc23 Pt23 "is_within" := by
      refine ⟨TB (cc23, Pt23) (by simp), by simp, ?_⟩
      intro p hp hq
      simp only [List.mem_cons, List.not_mem_nil, or_false] at hp
      rcases hp with rfl | rfl | rfl | rfl | rfl
      · exact absurd hq n14
      · exact absurd hq n24
      · exact absurd hq n34
      · rfl
      · exact absurd hq.symm n45
    have TB24 : Tb [(Pt18, ("both" : Str) ++ ".<locals>." ++ "<lambda>"), (Pt19, ("either" : Str) ++ ".<locals>." ++ "<lambda>"), (Pt20, ("without" : Str) ++ ".<locals>." ++ "<lambda>"), (Pt23, ("is_within" : Str) ++ ".<locals>." ++ "<lambda>"), (Pt24, ("first_apart" : Str) ++ ".<locals>." ++ "<lambda>")] base mg cc24 Pt24 "first_apart" := by
      refine ⟨TB (cc24, Pt24) (by simp), by simp, ?_⟩
      intro p hp hq
      simp only [List.mem_cons, List.not_mem_nil, or_false] at hp
      rcases hp with rfl | rfl | rfl | rfl | rfl
      · exact absurd hq n15
      · exact absurd hq n25
      · exact absurd hq n35
      · exact absurd hq n45
      · rfl
    have G1 : Fn l.prog w K mg base 1 "is_integer" ["value"] spIsInt := ⟨f1, _, ok_isInt F1 B, PySem.W.mg_of X G a1, k1, b1⟩
    have G2 : Fn l.prog w K mg base 2 "is_between" ["value", "least", "most"] spIsBetween := ⟨f2, _, ok_isBetween F2 G1, PySem.W.mg_of X G a2, k2, b2⟩
    have G3 : Fn l.prog w K mg base 3 "check_between" ["value", "least", "most"] spCheckBetween := ⟨f3, _, ok_checkBetween F3 G2, PySem.W.mg_of X G a3, k3, b3⟩
    have G4 : Fn l.prog w K mg base 1 "common_of" ["one", "other"] spCommon := ⟨f4, _, ok_common F4 B, PySem.W.mg_of X G a4, k4, b4⟩
    have G5 : Fn l.prog w K mg base 2 "multiple_of" ["one", "other"] spMultiple := ⟨f5, _, ok_multiple F5 B G4, PySem.W.mg_of X G a5, k5, b5⟩
    have G6 : Fn l.prog w K mg base 1 "apart_of" ["number"] spApart := ⟨f6, _, ok_apart F6 B, PySem.W.mg_of X G a6, k6, b6⟩
    have G7 : Fn l.prog w K mg base 2 "rising_fault" ["value", "most"] spRising := ⟨f7, _, ok_rising F7 B G1, PySem.W.mg_of X G a7, k7, b7⟩
    have G8 : Fn l.prog w K mg base 2 "least_base" ["base", "rests"] (spLB K) := ⟨f8, _, ok_lb F8 B G6, PySem.W.mg_of X G a8, k8, b8⟩
    have G9 : Fn l.prog w K mg base 3 "least_form" ["early", "start", "base", "rests"] (spLF K) := ⟨f9, _, ok_lf F9 B G8, PySem.W.mg_of X G a9, k9, b9⟩
    have Gs : Gts l.prog w K mg base C := ⟨⟨p1, fm1, _, ⟨am1, gm1, tm1, r1, rm1⟩, ok_g0 Fm1 T, bm1⟩, ⟨p2, fm2, _, ⟨am2, gm2, tm2, r2, rm2⟩, ok_g1 Fm2 T, bm2⟩, ⟨p3, fm3, _, ⟨am3, gm3, tm3, r3, rm3⟩, ok_g2 Fm3 T, bm3⟩, ⟨p4, fm4, _, ⟨am4, gm4, tm4, r4, rm4⟩, ok_g3 Fm4 T, bm4⟩⟩
    have EQ : Eqs l.prog w K mg base C := ⟨fm5, _, ⟨am5, im5, neC, moC⟩, ok_eq Fm5 B T, bm5⟩
    have Mc : Mkr l.prog w K mg base C := ⟨fm0, _, ⟨mkC, am0, im0, kcC⟩, ok_init Fm0 B T G7 G3 G9, bm0⟩
    have G10 : Fn l.prog w K mg base 1 "check_circle" ["value"] (spChk C) := ⟨f10, _, ok_chk F10 B T, PySem.W.mg_of X G a10, k10, b10⟩
    have G11 : Fn l.prog w K mg base 2 "check_circles" ["one", "other"] (spChk2 C) := ⟨f11, _, ok_chk2 F11 G10, PySem.W.mg_of X G a11, k11, b11⟩
    have G12 : Fn l.prog w K mg base 3 "common_base" ["one", "other"] (spCB C) := ⟨f12, _, ok_cb F12 T Gs G11 G5, PySem.W.mg_of X G a12, k12, b12⟩
    have G13 : Fn l.prog w K mg base 6 "circle_with" ["early", "start", "base", "rests"] (spCW K C) := ⟨f13, _, ok_cw F13 T Mc G9, PySem.W.mg_of X G a13, k13, b13⟩
    have G14 : Fn l.prog w K mg base 7 "circle_by" ["truths", "start", "base"] (spBy C) := ⟨f14, _, ok_by F14 B G13, PySem.W.mg_of X G a14, k14, b14⟩
    have G15 : Fn l.prog w K mg base 3 "truths_of" ["one", "many"] (spTo C) := ⟨f15, _, ok_to F15 B T Gs, PySem.W.mg_of X G a15, k15, b15⟩
    have G16 : Fn l.prog w K mg base 7 "circle_of" ["values"] (spOf C) := ⟨f16, _, ok_of F16 B T G2 G13, PySem.W.mg_of X G a16, k16, b16⟩
    have G17 : Fn l.prog w K mg base 8 "matched" ["one", "other", "told"] (spMt l.prog w K mg base C) := ⟨f17, _, ok_mt F17 B T Gs G12 G15 G14, PySem.W.mg_of X G a17, k17, b17⟩
    have G21 : Fn l.prog w K mg base 8 "rest_of" ["one"] (spRe C) := ⟨f21, _, ok_re F21 T Gs G10 G15 G14, PySem.W.mg_of X G a21, k21, b21⟩
    have G22 : Fn l.prog w K mg base 4 "first_where" ["one", "other", "told"] (spFw l.prog w K mg base C) := ⟨f22, _, ok_fw F22 B T Gs G12 G15, PySem.W.mg_of X G a22, k22, b22⟩
    have O18 := ok_both (T := [(Pt18, ("both" : Str) ++ ".<locals>." ++ "<lambda>"), (Pt19, ("either" : Str) ++ ".<locals>." ++ "<lambda>"), (Pt20, ("without" : Str) ++ ".<locals>." ++ "<lambda>"), (Pt23, ("is_within" : Str) ++ ".<locals>." ++ "<lambda>"), (Pt24, ("first_apart" : Str) ++ ".<locals>." ++ "<lambda>")]) F18 TB18 G17
    have G18 : Fn l.prog w K mg base 9 "both" ["one", "other"] (spTw [(Pt18, ("both" : Str) ++ ".<locals>." ++ "<lambda>"), (Pt19, ("either" : Str) ++ ".<locals>." ++ "<lambda>"), (Pt20, ("without" : Str) ++ ".<locals>." ++ "<lambda>"), (Pt23, ("is_within" : Str) ++ ".<locals>." ++ "<lambda>"), (Pt24, ("first_apart" : Str) ++ ".<locals>." ++ "<lambda>")] C fun a b => a && b) := ⟨f18, _, O18, PySem.W.mg_of X G a18, k18, b18⟩
    have W18 : FnW l.prog w K mg base 9 "both" ["one", "other"] ["other", "one"] K67R.gTwo K67R.gTwoV (spTw [(Pt18, ("both" : Str) ++ ".<locals>." ++ "<lambda>"), (Pt19, ("either" : Str) ++ ".<locals>." ++ "<lambda>"), (Pt20, ("without" : Str) ++ ".<locals>." ++ "<lambda>"), (Pt23, ("is_within" : Str) ++ ".<locals>." ++ "<lambda>"), (Pt24, ("first_apart" : Str) ++ ".<locals>." ++ "<lambda>")] C fun a b => a && b) := ⟨f18, _, O18, PySem.W.mg_of X G a18, k18, K67R.kb_two fun _ _ => rfl⟩
    have O19 := ok_either (T := [(Pt18, ("both" : Str) ++ ".<locals>." ++ "<lambda>"), (Pt19, ("either" : Str) ++ ".<locals>." ++ "<lambda>"), (Pt20, ("without" : Str) ++ ".<locals>." ++ "<lambda>"), (Pt23, ("is_within" : Str) ++ ".<locals>." ++ "<lambda>"), (Pt24, ("first_apart" : Str) ++ ".<locals>." ++ "<lambda>")]) F19 TB19 G17
    have G19 : Fn l.prog w K mg base 9 "either" ["one", "other"] (spTw [(Pt18, ("both" : Str) ++ ".<locals>." ++ "<lambda>"), (Pt19, ("either" : Str) ++ ".<locals>." ++ "<lambda>"), (Pt20, ("without" : Str) ++ ".<locals>." ++ "<lambda>"), (Pt23, ("is_within" : Str) ++ ".<locals>." ++ "<lambda>"), (Pt24, ("first_apart" : Str) ++ ".<locals>." ++ "<lambda>")] C fun a b => a || b) := ⟨f19, _, O19, PySem.W.mg_of X G a19, k19, b19⟩
    have W19 : FnW l.prog w K mg base 9 "either" ["one", "other"] ["other", "one"] K67R.gTwo K67R.gTwoV (spTw [(Pt18, ("both" : Str) ++ ".<locals>." ++ "<lambda>"), (Pt19, ("either" : Str) ++ ".<locals>." ++ "<lambda>"), (Pt20, ("without" : Str) ++ ".<locals>." ++ "<lambda>"), (Pt23, ("is_within" : Str) ++ ".<locals>." ++ "<lambda>"), (Pt24, ("first_apart" : Str) ++ ".<locals>." ++ "<lambda>")] C fun a b => a || b) := ⟨f19, _, O19, PySem.W.mg_of X G a19, k19, K67R.kb_two fun _ _ => rfl⟩
    have O20 := ok_without (T := [(Pt18, ("both" : Str) ++ ".<locals>." ++ "<lambda>"), (Pt19, ("either" : Str) ++ ".<locals>." ++ "<lambda>"), (Pt20, ("without" : Str) ++ ".<locals>." ++ "<lambda>"), (Pt23, ("is_within" : Str) ++ ".<locals>." ++ "<lambda>"), (Pt24, ("first_apart" : Str) ++ ".<locals>." ++ "<lambda>")]) F20 TB20 G17
    have G20 : Fn l.prog w K mg base 9 "without" ["one", "other"] (spTw [(Pt18, ("both" : Str) ++ ".<locals>." ++ "<lambda>"), (Pt19, ("either" : Str) ++ ".<locals>." ++ "<lambda>"), (Pt20, ("without" : Str) ++ ".<locals>." ++ "<lambda>"), (Pt23, ("is_within" : Str) ++ ".<locals>." ++ "<lambda>"), (Pt24, ("first_apart" : Str) ++ ".<locals>." ++ "<lambda>")] C fun a b => a && !b) := ⟨f20, _, O20, PySem.W.mg_of X G a20, k20, b20⟩
    have W20 : FnW l.prog w K mg base 9 "without" ["one", "other"] ["other", "one"] K67R.gTwo K67R.gTwoV (spTw [(Pt18, ("both" : Str) ++ ".<locals>." ++ "<lambda>"), (Pt19, ("either" : Str) ++ ".<locals>." ++ "<lambda>"), (Pt20, ("without" : Str) ++ ".<locals>." ++ "<lambda>"), (Pt23, ("is_within" : Str) ++ ".<locals>." ++ "<lambda>"), (Pt24, ("first_apart" : Str) ++ ".<locals>." ++ "<lambda>")] C fun a b => a && !b) := ⟨f20, _, O20, PySem.W.mg_of X G a20, k20, K67R.kb_two fun _ _ => rfl⟩
    have O23 := ok_within (T := [(Pt18, ("both" : Str) ++ ".<locals>." ++ "<lambda>"), (Pt19, ("either" : Str) ++ ".<locals>." ++ "<lambda>"), (Pt20, ("without" : Str) ++ ".<locals>." ++ "<lambda>"), (Pt23, ("is_within" : Str) ++ ".<locals>." ++ "<lambda>"), (Pt24, ("first_apart" : Str) ++ ".<locals>." ++ "<lambda>")]) F23 TB23 G22
    have G23 : Fn l.prog w K mg base 5 "is_within" ["one", "other"] (spWi [(Pt18, ("both" : Str) ++ ".<locals>." ++ "<lambda>"), (Pt19, ("either" : Str) ++ ".<locals>." ++ "<lambda>"), (Pt20, ("without" : Str) ++ ".<locals>." ++ "<lambda>"), (Pt23, ("is_within" : Str) ++ ".<locals>." ++ "<lambda>"), (Pt24, ("first_apart" : Str) ++ ".<locals>." ++ "<lambda>")] C) := ⟨f23, _, O23, PySem.W.mg_of X G a23, k23, b23⟩
    have W23 : FnW l.prog w K mg base 5 "is_within" ["one", "other"] ["other", "one"] K67R.gTwo K67R.gTwoV (spWi [(Pt18, ("both" : Str) ++ ".<locals>." ++ "<lambda>"), (Pt19, ("either" : Str) ++ ".<locals>." ++ "<lambda>"), (Pt20, ("without" : Str) ++ ".<locals>." ++ "<lambda>"), (Pt23, ("is_within" : Str) ++ ".<locals>." ++ "<lambda>"), (Pt24, ("first_apart" : Str) ++ ".<locals>." ++ "<lambda>")] C) := ⟨f23, _, O23, PySem.W.mg_of X G a23, k23, K67R.kb_two fun _ _ => rfl⟩
    have O24 := ok_firstApart (T := [(Pt18, ("both" : Str) ++ ".<locals>." ++ "<lambda>"), (Pt19, ("either" : Str) ++ ".<locals>." ++ "<lambda>"), (Pt20, ("without" : Str) ++ ".<locals>." ++ "<lambda>"), (Pt23, ("is_within" : Str) ++ ".<locals>." ++ "<lambda>"), (Pt24, ("first_apart" : Str) ++ ".<locals>." ++ "<lambda>")]) F24 TB24 G22
    have G24 : Fn l.prog w K mg base 5 "first_apart" ["one", "other"] (spAp [(Pt18, ("both" : Str) ++ ".<locals>." ++ "<lambda>"), (Pt19, ("either" : Str) ++ ".<locals>." ++ "<lambda>"), (Pt20, ("without" : Str) ++ ".<locals>." ++ "<lambda>"), (Pt23, ("is_within" : Str) ++ ".<locals>." ++ "<lambda>"), (Pt24, ("first_apart" : Str) ++ ".<locals>." ++ "<lambda>")] C) := ⟨f24, _, O24, PySem.W.mg_of X G a24, k24, b24⟩
    have W24 : FnW l.prog w K mg base 5 "first_apart" ["one", "other"] ["other", "one"] K67R.gTwo K67R.gTwoV (spAp [(Pt18, ("both" : Str) ++ ".<locals>." ++ "<lambda>"), (Pt19, ("either" : Str) ++ ".<locals>." ++ "<lambda>"), (Pt20, ("without" : Str) ++ ".<locals>." ++ "<lambda>"), (Pt23, ("is_within" : Str) ++ ".<locals>." ++ "<lambda>"), (Pt24, ("first_apart" : Str) ++ ".<locals>." ++ "<lambda>")] C) := ⟨f24, _, O24, PySem.W.mg_of X G a24, k24, K67R.kb_two fun _ _ => rfl⟩
    have W21 : FnW l.prog w K mg base 8 "rest_of" ["one"] ["one"] K67R.gOne K67R.gOneV (spRe C) := ⟨f21, _, ok_re F21 T Gs G10 G15 G14, PySem.W.mg_of X G a21, k21, K67R.kb_one fun _ => rfl⟩
    have G25 : Fn l.prog w K mg base 1 "_law_keg" ["_law_cells", "_law_at"] (spKeg K) := ⟨f25, _, ok_keg F25 B, PySem.W.mg_of X G a25, k25, b25⟩
    have G26 : Fn l.prog w K mg base 1 "_law_tap" ["_law_keg_here", "_law_upto"] spTap := ⟨f26, _, ok_tap F26 B, PySem.W.mg_of X G a26, k26, b26⟩
    have G27 : Fn l.prog w K mg base 2 "_law_any" ["_law_keg_here", "_law_things"] spAny := ⟨f27, _, ok_any F27 B G26, PySem.W.mg_of X G a27, k27, b27⟩
    have G28 : Fn l.prog w K mg base 3 "_law_set" ["_law_keg_here", "_law_most"] spSet := ⟨f28, _, ok_set F28 B G27 G26, PySem.W.mg_of X G a28, k28, b28⟩
    have G29 : Fn l.prog w K mg base 1 "_law_has" ["_law_c", "_law_x"] spHas := ⟨f29, _, ok_has F29 B, PySem.W.mg_of X G a29, k29, b29⟩
    have G30 : Fn l.prog w K mg base 2 "_law_flags" ["_law_c", "_law_wide"] spFlags := ⟨f30, _, ok_flags F30 B G29, PySem.W.mg_of X G a30, k30, b30⟩
    have G31 : Fn l.prog w K mg base 1 "_law_form" ["_law_flags_here"] spFo := ⟨f31, _, ok_fo F31 B, PySem.W.mg_of X G a31, k31, b31⟩
    have G32 : Fn l.prog w K mg base 3 "_law_shown" ["_law_circle_here"] (spShown C) := ⟨f32, _, ok_shown F32 T Gs, PySem.W.mg_of X G a32, k32, b32⟩
    have G33 : Fn l.prog w K mg base 6 "_law_circle" ["_law_c"] (spCirc C) := ⟨f33, _, ok_circ F33 B T Mc, PySem.W.mg_of X G a33, k33, b33⟩
    have S : Calls l.prog w K mg base C [(Pt18, ("both" : Str) ++ ".<locals>." ++ "<lambda>"), (Pt19, ("either" : Str) ++ ".<locals>." ++ "<lambda>"), (Pt20, ("without" : Str) ++ ".<locals>." ++ "<lambda>"), (Pt23, ("is_within" : Str) ++ ".<locals>." ++ "<lambda>"), (Pt24, ("first_apart" : Str) ++ ".<locals>." ++ "<lambda>")] := ⟨G33, G30, G31, G32, G18, W18, G19, W19, G20, W20, G21, W21, G23, W23, G24, W24, G16⟩
    have G34 : Fn l.prog w K mg base 10 "_law_pair_right" ["_law_c", "_law_d"] (spPr [(Pt18, ("both" : Str) ++ ".<locals>." ++ "<lambda>"), (Pt19, ("either" : Str) ++ ".<locals>." ++ "<lambda>"), (Pt20, ("without" : Str) ++ ".<locals>." ++ "<lambda>"), (Pt23, ("is_within" : Str) ++ ".<locals>." ++ "<lambda>"), (Pt24, ("first_apart" : Str) ++ ".<locals>." ++ "<lambda>")]) := ⟨f34, _, ok_pr F34 B S EQ, PySem.W.mg_of X G a34, k34, b34⟩
    have G35 : Gn l.prog w K mg base 10 "_law_order_right" ["_law_c", "_law_d"] (spPr [(Pt18, ("both" : Str) ++ ".<locals>." ++ "<lambda>"), (Pt19, ("either" : Str) ++ ".<locals>." ++ "<lambda>"), (Pt20, ("without" : Str) ++ ".<locals>." ++ "<lambda>"), (Pt23, ("is_within" : Str) ++ ".<locals>." ++ "<lambda>"), (Pt24, ("first_apart" : Str) ++ ".<locals>." ++ "<lambda>")]) := ⟨f35, _, ok_or F35 B S EQ, PySem.W.mg_of X G a35, k35, b35⟩
    have G36 : Gn l.prog w K mg base 11 "_law_right" ["_law_keg_here"] (spRi [(Pt18, ("both" : Str) ++ ".<locals>." ++ "<lambda>"), (Pt19, ("either" : Str) ++ ".<locals>." ++ "<lambda>"), (Pt20, ("without" : Str) ++ ".<locals>." ++ "<lambda>"), (Pt23, ("is_within" : Str) ++ ".<locals>." ++ "<lambda>"), (Pt24, ("first_apart" : Str) ++ ".<locals>." ++ "<lambda>")]) := ⟨f36, _, ok_ri F36 B G28 G26 G34 G35, PySem.W.mg_of X G a36, k36, b36⟩
    exact ok_law F37 B G25 G36
theorem walk {l : PySem.W.OpenLaw} {q : Program} {loose : List Str} {XP : (Str → Option Value) → Heap → Prop} {YP : World → Heap → Prop} {d : DefRec} {K : Params → PySem.W.Frag} (hn : l.most = some 63) (hdf : d.params.defaults = []) (hrec : ∀ x ∈ five, ((recsOf q).find? fun e => e.name == x).isSome = true)
    (hY : ∀ (w : World) (h : Heap), YP w h → (K w.params).In h)
    (F : ∀ (w : World) (mg : Str → Option Value) (fa : Addr) (h : Heap), (K w.params).In h → h.Ns mainGlobals mg → mg d.name = some (.ref fa) → (∀ (x : Str) (c P : Addr), x ∈ five → PySem.W.tabIn (K w.params) x = some (c, P) → PySem.W.CodeHd h c P ∧ h.get? P = some { cls := .none, data := .fields #[] }) → EndAt l.prog w (K w.params) mg fa h) :
    PySem.W.WalkO q loose XP YP l.row.toRowW d [] (fun f vs => PySem.call f vs) := by
  refine Att.attach_callB hn hdf fun w s₀ s₁ mg mb fa o pm cd doc a vs ns G Y ho hd hcd hmg hobj hints hlen hbits hg => ?_
  have KX := hY w _ Y
  obtain ⟨fd, cs, T, hT, nT, C, hb, hTc, hF⟩ := F w mg fa _ KX G.T.g hmg fun x c P hx ht => by
    obtain ⟨dx, hdx⟩ := Option.isSome_iff_exists.mp (hrec x hx)
    exact PySem.W.tab_of G.T KX hdx ht
  refine end_call KX G.T.g G.T.b G.T.builtins G.T.nolimit hg hT nT C G.T.bmain hobj hints (Nat.le_trans hlen (by decide)) ⟨rfl, by decide, by decide⟩ hF hb fun H hH hS => ⟨a, ns, rfl, hS, hlen, fun p hp => ?_, fun _ => rfl⟩
  obtain ⟨p', hp', e⟩ := List.mem_map.mp (hTc p hp)
  refine .nil ?_
  rw [← e]
  exact hH p' hp'
end K67
open PySem PySem.W PyProof.Rows
set_option maxRecDepth 100000 in
set_option maxHeartbeats 0 in
theorem PySem.Challenge.cw_restworld_k67_whole_circles_of_two_holds : PySem.Challenge.rw_restworld_k67_whole_circles_of_two.Holds := by
  w_on; o_law; k_head; (case hw => w_witness2)
  k_fill
  refine K67.walk (l := PySem.Challenge.rw_restworld_k67_whole_circles_of_two) rfl rfl ?R (fun w h Y => PySem.W.km_in_of Y) ?F
  case R =>
    intro x hx
    simp only [K67.five, List.mem_cons, List.not_mem_nil, or_false] at hx
    rcases hx with rfl | rfl | rfl | rfl | rfl <;> kernel_rfl
  case F =>
    intro w mg fa h KX G hmg tabs
    refine' K67.all_mk (l := PySem.Challenge.rw_restworld_k67_whole_circles_of_two) KX G hmg tabs ?aC ?a1 ?l1 ?c1 ?k1 ?a2 ?l2 ?c2 ?k2 ?a3 ?l3 ?c3 ?k3 ?a4 ?l4 ?c4 ?k4 ?a5 ?l5 ?c5 ?k5 ?a6 ?l6 ?c6 ?k6 ?a7 ?l7 ?c7 ?k7 ?a8 ?l8 ?c8 ?k8 ?a9 ?l9 ?c9 ?k9 ?a10 ?l10 ?c10 ?k10 ?a11 ?l11 ?c11 ?k11 ?a12 ?l12 ?c12 ?k12 ?a13 ?l13 ?c13 ?k13 ?a14 ?l14 ?c14 ?k14 ?a15 ?l15 ?c15 ?k15 ?a16 ?l16 ?c16 ?k16 ?a17 ?l17 ?c17 ?k17 ?a18 ?l18 ?c18 ?k18 ?lc18 ?hv18 ?np18 ?a19 ?l19 ?c19 ?k19 ?lc19 ?hv19 ?np19 ?a20 ?l20 ?c20 ?k20 ?lc20 ?hv20 ?np20 ?a21 ?l21 ?c21 ?k21 ?a22 ?l22 ?c22 ?k22 ?a23 ?l23 ?c23 ?k23 ?lc23 ?hv23 ?np23 ?a24 ?l24 ?c24 ?k24 ?lc24 ?hv24 ?np24 ?a25 ?l25 ?c25 ?k25 ?a26 ?l26 ?c26 ?k26 ?a27 ?l27 ?c27 ?k27 ?a28 ?l28 ?c28 ?k28 ?a29 ?l29 ?c29 ?k29 ?a30 ?l30 ?c30 ?k30 ?a31 ?l31 ?c31 ?k31 ?a32 ?l32 ?c32 ?k32 ?a33 ?l33 ?c33 ?k33 ?a34 ?l34 ?c34 ?k34 ?a35 ?l35 ?c35 ?k35 ?a36 ?l36 ?c36 ?k36 ?a37 ?l37 ?c37 ?k37 ?nd ?am0 ?im0 ?lm0 ?cm0 ?km0 ?am1 ?gm1 ?tm1 ?rm1 ?lm1 ?cm1 ?km1 ?am2 ?gm2 ?tm2 ?rm2 ?lm2 ?cm2 ?km2 ?am3 ?gm3 ?tm3 ?rm3 ?lm3 ?cm3 ?km3 ?am4 ?gm4 ?tm4 ?rm4 ?lm4 ?cm4 ?km4 ?am5 ?im5 ?lm5 ?cm5 ?km5 ?pgC ?hdC ?poC ?saC ?mkC ?kcC ?nF ?neC ?moC ?ccC ?cgC ?ctC ?mc ?z_isinstance ?z_int ?z_bool ?z_abs ?z_tuple ?z_enumerate ?z_dict ?z_all ?z_range ?z_list ?z_len ?z_sorted ?z_max ?z_min ?z_zip ?z_set ?z_repr ?z_divmod
    (case aC => k_is)
    (case a1 => k_is)
    (case l1 => k_is)
    (case c1 => k_is)
    (case k1 => k_is)
    (case a2 => k_is)
    (case l2 => k_is)
    (case c2 => k_is)
    (case k2 => k_is)
    (case a3 => k_is)
    (case l3 => k_is)
    (case c3 => k_is)
    (case k3 => k_is)
    (case a4 => k_is)
    (case l4 => k_is)
    (case c4 => k_is)
    (case k4 => k_is)
    (case a5 => k_is)
    (case l5 => k_is)
    (case c5 => k_is)
    (case k5 => k_is)
    (case a6 => k_is)
    (case l6 => k_is)
    (case c6 => k_is)
    (case k6 => k_is)
    (case a7 => k_is)
    (case l7 => k_is)
    (case c7 => k_is)
    (case k7 => k_is)
    (case a8 => k_is)
    (case l8 => k_is)
    (case c8 => k_is)
    (case k8 => k_is)
    (case a9 => k_is)
    (case l9 => k_is)
    (case c9 => k_is)
    (case k9 => k_is)
    (case a10 => k_is)
    (case l10 => k_is)
    (case c10 => k_is)
    (case k10 => k_is)
    (case a11 => k_is)
    (case l11 => k_is)
    (case c11 => k_is)
    (case k11 => k_is)
    (case a12 => k_is)
    (case l12 => k_is)
    (case c12 => k_is)
    (case k12 => k_is)
    (case a13 => k_is)
    (case l13 => k_is)
    (case c13 => k_is)
    (case k13 => k_is)
    (case a14 => k_is)
    (case l14 => k_is)
    (case c14 => k_is)
    (case k14 => k_is)
    (case a15 => k_is)
    (case l15 => k_is)
    (case c15 => k_is)
    (case k15 => k_is)
    (case a16 => k_is)
    (case l16 => k_is)
    (case c16 => k_is)
    (case k16 => k_is)
    (case a17 => k_is)
    (case l17 => k_is)
    (case c17 => k_is)
    (case k17 => k_is)
    (case a18 => k_is)
    (case l18 => k_is)
    (case c18 => k_is)
    (case k18 => k_is)
    (case lc18 => k_is)
    (case hv18 => exact rfl)
    (case np18 => kernel_rfl)
    (case a19 => k_is)
    (case l19 => k_is)
    (case c19 => k_is)
    (case k19 => k_is)
    (case lc19 => k_is)
    (case hv19 => exact rfl)
    (case np19 => kernel_rfl)
    (case a20 => k_is)
    (case l20 => k_is)
    (case c20 => k_is)
    (case k20 => k_is)
    (case lc20 => k_is)
    (case hv20 => exact rfl)
    (case np20 => kernel_rfl)
    (case a21 => k_is)
    (case l21 => k_is)
    (case c21 => k_is)
    (case k21 => k_is)
    (case a22 => k_is)
    (case l22 => k_is)
    (case c22 => k_is)
    (case k22 => k_is)
    (case a23 => k_is)
    (case l23 => k_is)
    (case c23 => k_is)
    (case k23 => k_is)
    (case lc23 => k_is)
    (case hv23 => exact rfl)
    (case np23 => kernel_rfl)
    (case a24 => k_is)
    (case l24 => k_is)
    (case c24 => k_is)
    (case k24 => k_is)
    (case lc24 => k_is)
    (case hv24 => exact rfl)
    (case np24 => kernel_rfl)
    (case a25 => k_is)
    (case l25 => k_is)
    (case c25 => k_is)
    (case k25 => k_is)
    (case a26 => k_is)
    (case l26 => k_is)
    (case c26 => k_is)
    (case k26 => k_is)
    (case a27 => k_is)
    (case l27 => k_is)
    (case c27 => k_is)
    (case k27 => k_is)
    (case a28 => k_is)
    (case l28 => k_is)
    (case c28 => k_is)
    (case k28 => k_is)
    (case a29 => k_is)
    (case l29 => k_is)
    (case c29 => k_is)
    (case k29 => k_is)
    (case a30 => k_is)
    (case l30 => k_is)
    (case c30 => k_is)
    (case k30 => k_is)
    (case a31 => k_is)
    (case l31 => k_is)
    (case c31 => k_is)
    (case k31 => k_is)
    (case a32 => k_is)
    (case l32 => k_is)
    (case c32 => k_is)
    (case k32 => k_is)
    (case a33 => k_is)
    (case l33 => k_is)
    (case c33 => k_is)
    (case k33 => k_is)
    (case a34 => k_is)
    (case l34 => k_is)
    (case c34 => k_is)
    (case k34 => k_is)
    (case a35 => k_is)
    (case l35 => k_is)
    (case c35 => k_is)
    (case k35 => k_is)
    (case a36 => k_is)
    (case l36 => k_is)
    (case c36 => k_is)
    (case k36 => k_is)
    (case a37 => k_is)
    (case l37 => k_is)
    (case c37 => k_is)
    (case k37 => k_is)
    (case nd => decide)
    (case am0 => k_is)
    (case im0 => k_is)
    (case lm0 => k_is)
    (case cm0 => k_is)
    (case km0 => k_is)
    (case am1 => k_is)
    (case gm1 => k_is)
    (case tm1 => k_is)
    (case rm1 => k_is)
    (case lm1 => k_is)
    (case cm1 => k_is)
    (case km1 => k_is)
    (case am2 => k_is)
    (case gm2 => k_is)
    (case tm2 => k_is)
    (case rm2 => k_is)
    (case lm2 => k_is)
    (case cm2 => k_is)
    (case km2 => k_is)
    (case am3 => k_is)
    (case gm3 => k_is)
    (case tm3 => k_is)
    (case rm3 => k_is)
    (case lm3 => k_is)
    (case cm3 => k_is)
    (case km3 => k_is)
    (case am4 => k_is)
    (case gm4 => k_is)
    (case tm4 => k_is)
    (case rm4 => k_is)
    (case lm4 => k_is)
    (case cm4 => k_is)
    (case km4 => k_is)
    (case am5 => k_is)
    (case im5 => k_is)
    (case lm5 => k_is)
    (case cm5 => k_is)
    (case km5 => k_is)
    (case pgC => k_is)
    (case hdC => k_is)
    (case poC => k_is)
    (case saC => k_is)
    (case mkC => k_is)
    (case kcC => k_is)
    (case nF => k_is)
    (case neC => k_is)
    (case moC => k_is)
    (case ccC => k_is)
    (case cgC => k_is)
    (case ctC => k_is)
    (case mc => k_is)
    (case z_isinstance => k_is)
    (case z_int => k_is)
    (case z_bool => k_is)
    (case z_abs => k_is)
    (case z_tuple => k_is)
    (case z_enumerate => k_is)
    (case z_dict => k_is)
    (case z_all => k_is)
    (case z_range => k_is)
    (case z_list => k_is)
    (case z_len => k_is)
    (case z_sorted => k_is)
    (case z_max => k_is)
    (case z_min => k_is)
    (case z_zip => k_is)
    (case z_set => k_is)
    (case z_repr => k_is)
    (case z_divmod => k_is)
