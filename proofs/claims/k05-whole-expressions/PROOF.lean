import PyProof.Rows.All
import Wide.All
import OpenK.AllK
import Wide.FinOn
import KE.KExcSuper
import KE.KIntText
import PyProof.Rows.StrIntSpec
import KE.KNest
import HandS.ForMost
import HandS.Exc
import HandS.TryOnly
import HandS.ExcOwn
import HandS.ExcInit
import HandS.ExcField
import HandS.FStr
import HandS.Nested
import HandS.AnyAll
import HandS.Wide
import HandS.Defaults
import HandS.IsInst
import HandS.RaiseMore
import HandS.WordsExc
import HandS.EndOwn
import PySem.Challenge.RW_truepart_k05_whole_expressions_are_read
set_option Elab.async false
set_option linter.all false
set_option maxRecDepth 100000
set_option maxHeartbeats 4000000
/-! Plain Lean: fractions as pairs in lowest terms, Euclid's steps, short values. -/
namespace Tp
open PySem
abbrev Q2 := Int × Int
def fr (n d : Int) : Q2 := (n / (Int.gcd n d : Int), d / (Int.gcd n d : Int))
structure Can (q : Q2) : Prop where
  pos : 0 < q.2
  one : Int.gcd q.1 q.2 = 1
theorem gcd_pos {n d : Int} (h : 0 < d) : 0 < Int.gcd n d := Int.gcd_pos_of_ne_zero_right n (by omega)
theorem gcd_le {n d : Int} (h : 0 < d) : (Int.gcd n d : Int) ≤ d := Int.le_of_dvd h (Int.gcd_dvd_right n d)
theorem fr_can {n d : Int} (h : 0 < d) : Can (fr n d) :=
  ⟨Int.ediv_pos_of_pos_of_dvd h (Int.natCast_nonneg _) (Int.gcd_dvd_right n d), Int.gcd_ediv_gcd_ediv_gcd (gcd_pos h)⟩
theorem fr_of {q : Q2} (h : Can q) : fr q.1 q.2 = q := by
  obtain ⟨n, d⟩ := q
  have e : Int.gcd n d = 1 := h.one
  show (n / (Int.gcd n d : Int), d / (Int.gcd n d : Int)) = (n, d)
  rw [e]
  simp
theorem fr_zero {d : Int} (h : 0 < d) : fr 0 d = (0, 1) := by
  unfold fr
  have e : (Int.gcd 0 d : Int) = d := by
    rw [Int.gcd_zero_left]
    omega
  rw [e, Int.ediv_self (by omega)]
  simp
theorem fr_one (n : Int) : fr n 1 = (n, 1) := by
  unfold fr
  rw [Int.gcd_one_right]
  simp
theorem can_one (n : Int) : Can (n, 1) := ⟨by show (0 : Int) < 1; decide, Int.gcd_one_right n⟩
def plusQ (a b : Q2) : Q2 := fr (a.1 * b.2 + b.1 * a.2) (a.2 * b.2)
def timesQ (a b : Q2) : Q2 := fr (a.1 * b.1) (a.2 * b.2)
def negQ (a : Q2) : Q2 := (-a.1, a.2)
theorem plus_can {a b : Q2} (ha : 0 < a.2) (hb : 0 < b.2) : Can (plusQ a b) := fr_can (Int.mul_pos ha hb)
theorem plus_zero {a : Q2} (h : Can a) : plusQ a (0, 1) = a := by
  unfold plusQ
  show fr (a.1 * 1 + 0 * a.2) (a.2 * 1) = a
  rw [Int.mul_one, Int.zero_mul, Int.add_zero, Int.mul_one]
  exact fr_of h
theorem zero_plus {a : Q2} (h : Can a) : plusQ (0, 1) a = a := by
  unfold plusQ
  show fr (0 * a.2 + a.1 * 1) (1 * a.2) = a
  rw [Int.mul_one, Int.zero_mul, Int.zero_add, Int.one_mul]
  exact fr_of h
theorem times_zero {f : Q2} (h : 0 < f.2) : timesQ f (0, 1) = (0, 1) := by
  unfold timesQ
  show fr (f.1 * 0) (f.2 * 1) = (0, 1)
  rw [Int.mul_zero, Int.mul_one]
  exact fr_zero h
theorem times_one {f : Q2} (h : Can f) : timesQ f (1, 1) = f := by
  unfold timesQ
  show fr (f.1 * 1) (f.2 * 1) = f
  rw [Int.mul_one, Int.mul_one]
  exact fr_of h
theorem neg_can {a : Q2} (h : Can a) : Can (negQ a) := ⟨h.pos, by show Int.gcd (-a.1) a.2 = 1; rw [Int.neg_gcd]; exact h.one⟩
theorem neg_zero : negQ (0, 1) = (0, 1) := rfl
/-! ### sizes -/
structure Sz (B : Nat) (q : Q2) : Prop where
  n : q.1.natAbs < 2 ^ B
  p : 0 < q.2
  d : q.2.natAbs < 2 ^ B
theorem Sz.mono {B C : Nat} {q : Q2} (h : Sz B q) (l : B ≤ C) : Sz C q :=
  ⟨Nat.lt_of_lt_of_le h.n (Nat.pow_le_pow_right (by decide) l), h.p, Nat.lt_of_lt_of_le h.d (Nat.pow_le_pow_right (by decide) l)⟩
theorem div_abs (n : Int) (g : Nat) (hd : (g : Int) ∣ n) : (n / (g : Int)).natAbs ≤ n.natAbs := by
  rw [Int.natAbs_ediv_of_dvd hd]
  exact Nat.div_le_self _ _
theorem fr_sz {B : Nat} {n d : Int} (hd : 0 < d) (h1 : n.natAbs < 2 ^ B) (h2 : d.natAbs < 2 ^ B) : Sz B (fr n d) :=
  ⟨Nat.lt_of_le_of_lt (div_abs n _ (Int.gcd_dvd_left n d)) h1, (fr_can hd).pos, Nat.lt_of_le_of_lt (div_abs d _ (Int.gcd_dvd_right n d)) h2⟩
theorem mul_abs {a b : Int} {B C : Nat} (ha : a.natAbs < 2 ^ B) (hb : b.natAbs < 2 ^ C) : (a * b).natAbs < 2 ^ (B + C) := by
  rw [Int.natAbs_mul, Nat.pow_add]
  exact Nat.mul_lt_mul'' ha hb
theorem add_abs {a b : Int} {B : Nat} (ha : a.natAbs < 2 ^ B) (hb : b.natAbs < 2 ^ B) : (a + b).natAbs < 2 ^ (B + 1) := by
  have h := Int.natAbs_add_le a b
  rw [Nat.pow_succ]
  omega
theorem plus_num {B C : Nat} {a b : Q2} (ha : Sz B a) (hb : Sz C b) : (a.1 * b.2 + b.1 * a.2).natAbs < 2 ^ (B + C + 1) := by
  refine add_abs (mul_abs ha.n hb.d) ?_
  rw [Nat.add_comm B C]
  exact mul_abs hb.n ha.d
theorem plus_den {B C : Nat} {a b : Q2} (ha : Sz B a) (hb : Sz C b) : (a.2 * b.2).natAbs < 2 ^ (B + C + 1) :=
  Nat.lt_of_lt_of_le (mul_abs ha.d hb.d) (Nat.pow_le_pow_right (by decide) (by omega))
theorem plus_sz {B C : Nat} {a b : Q2} (ha : Sz B a) (hb : Sz C b) : Sz (B + C + 1) (plusQ a b) := fr_sz (Int.mul_pos ha.p hb.p) (plus_num ha hb) (plus_den ha hb)
theorem neg_sz {B : Nat} {a : Q2} (h : Sz B a) : Sz B (negQ a) := ⟨by show (-a.1).natAbs < _; rw [Int.natAbs_neg]; exact h.n, h.p, h.d⟩
theorem zero_sz : Sz 1 (0, 1) := ⟨by decide, by decide, by decide⟩
/-! ### Euclid's steps, counted -/
theorem gcd_step (a b : Nat) : Nat.gcd b (a % b) = Nat.gcd a b := by
  rw [Nat.gcd_comm a b, Nat.gcd_rec b a, Nat.gcd_comm]
/-- behind i steps from (a0, b0) -/
structure Eu (a0 b0 i a b : Nat) : Prop where
  g : Nat.gcd a b = Nat.gcd a0 b0
  zero : i = 0 → a = a0 ∧ b = b0
  lt : 0 < i → b < a
  le : 0 < i → a * b * 2 ^ (i - 1) ≤ a0 * b0
theorem Eu.start (a0 b0 : Nat) : Eu a0 b0 0 a0 b0 := ⟨rfl, fun _ => ⟨rfl, rfl⟩, fun h => absurd h (by decide), fun h => absurd h (by decide)⟩
theorem Eu.next {a0 b0 i a b : Nat} (h : Eu a0 b0 i a b) (hb : b ≠ 0) : Eu a0 b0 (i + 1) b (a % b) := by
  have hlt : a % b < b := Nat.mod_lt a (by omega)
  refine ⟨by rw [gcd_step]; exact h.g, fun z => absurd z (Nat.succ_ne_zero i), fun _ => hlt, fun _ => ?_⟩
  by_cases hi : i = 0
  · obtain ⟨e1, e2⟩ := h.zero hi
    subst e1 e2 hi
    show b * (a % b) * 2 ^ 0 ≤ a * b
    rw [Nat.pow_zero, Nat.mul_one, Nat.mul_comm a b]
    exact Nat.mul_le_mul_left b (Nat.mod_le a b)
  · have hi0 : 0 < i := by omega
    have h1 := h.lt hi0
    have h2 := h.le hi0
    have h3 : 2 * (a % b) ≤ a := by
      have e : b * (a / b) + a % b = a := Nat.div_add_mod a b
      have q : 1 ≤ a / b := (Nat.le_div_iff_mul_le (by omega)).mpr (by omega)
      have q2 : b * 1 ≤ b * (a / b) := Nat.mul_le_mul_left b q
      omega
    obtain ⟨j, rfl⟩ : ∃ j, i = j + 1 := ⟨i - 1, by omega⟩
    have h2' : a * b * 2 ^ j ≤ a0 * b0 := h2
    show b * (a % b) * 2 ^ (j + 1) ≤ a0 * b0
    refine Nat.le_trans ?_ h2'
    rw [Nat.pow_succ, Nat.mul_comm (2 ^ j) 2, ← Nat.mul_assoc]
    refine Nat.mul_le_mul_right _ ?_
    rw [Nat.mul_assoc, Nat.mul_comm (a % b) 2, Nat.mul_comm a b]
    exact Nat.mul_le_mul_left b h3
theorem Eu.done {a0 b0 i a b k : Nat} (h : Eu a0 b0 i a b) (hi : k + 1 < i) (hk : a0 * b0 < 2 ^ k) : b = 0 := by
  rcases Nat.eq_zero_or_pos b with e | e
  · exact e
  · have h1 := h.lt (by omega)
    have h2 := h.le (by omega)
    have h3 : 1 ≤ a * b := Nat.mul_pos (by omega) e
    have h4 : 2 ^ k ≤ 2 ^ (i - 1) := Nat.pow_le_pow_right (by decide) (by omega)
    have h5 : 1 * 2 ^ (i - 1) ≤ a * b * 2 ^ (i - 1) := Nat.mul_le_mul_right _ h3
    omega
/-- the code length of a number's text -/
def ln (n : Nat) : Nat := (Nat.toDigits 10 n).length
theorem lt_ln (n : Nat) : n < 10 ^ ln n := by
  rcases Nat.lt_or_ge n (10 ^ ln n) with h | h
  · exact h
  · have := PyProof.Rows.digits10_ge h
    exact absurd this (by unfold ln; omega)
theorem ln_prod (a b : Nat) : a * b < 2 ^ (4 * ln a + 4 * ln b) := by
  have h1 := lt_ln a
  have h2 := lt_ln b
  have h3 : a * b < 10 ^ ln a * 10 ^ ln b := Nat.mul_lt_mul'' h1 h2
  have h4 : ∀ k : Nat, 10 ^ k ≤ 2 ^ (4 * k) := fun k => by
    rw [Nat.pow_mul]
    exact Nat.pow_le_pow_left (by decide) k
  rw [Nat.pow_add]
  exact Nat.lt_of_lt_of_le h3 (Nat.mul_le_mul (h4 _) (h4 _))
theorem ln_le {n k : Nat} (h : n < 10 ^ k) (hk : 1 ≤ k) : ln n ≤ k := PyProof.Rows.digits10_le hk h
theorem ln_pos (n : Nat) : 1 ≤ ln n := PyProof.Rows.tDigits_len_ge 10 n
theorem ln_le2 {n : Nat} (h : n < 2 ^ 2000) : ln n ≤ 2000 := ln_le (Nat.lt_of_lt_of_le h (Nat.pow_le_pow_left (by decide) 2000)) (by decide)
/-! ### short values -/
def lcmI (z d : Int) : Int := z * d / (Int.gcd z d : Int)
theorem lcm_law (z d : Int) : z / (Int.gcd z d : Int) * d = lcmI z d := by
  unfold lcmI
  rw [Int.mul_comm z d, Int.mul_ediv_assoc d (Int.gcd_dvd_left z d), Int.mul_comm]
theorem lcm_pos {z d : Int} (hz : 0 < z) (hd : 0 < d) : 0 < lcmI z d := by
  rw [← lcm_law]
  exact Int.mul_pos (Int.ediv_pos_of_pos_of_dvd hz (Int.natCast_nonneg _) (Int.gcd_dvd_left z d)) hd
theorem lcm_sz {z d : Int} {B C : Nat} (hz : z.natAbs < 2 ^ B) (hd : d.natAbs < 2 ^ C) : (lcmI z d).natAbs < 2 ^ (B + C) := by
  rw [← lcm_law]
  exact mul_abs (Nat.lt_of_le_of_lt (div_abs z _ (Int.gcd_dvd_left z d)) hz) hd
def belowV (v : List Q2) : Int := v.foldl (fun z q => lcmI z q.2) 1
theorem below_snoc (v : List Q2) (q : Q2) : belowV (v ++ [q]) = lcmI (belowV v) q.2 := by
  unfold belowV
  rw [List.foldl_append]
  rfl
theorem below_sz {C : Nat} : ∀ (v : List Q2) (z : Int) (B : Nat), 0 < z → z.natAbs < 2 ^ B → (∀ q ∈ v, 0 < q.2 ∧ q.2.natAbs < 2 ^ C) →
    0 < v.foldl (fun z q => lcmI z q.2) z ∧ (v.foldl (fun z q => lcmI z q.2) z).natAbs < 2 ^ (B + C * v.length)
  | [], z, B, h0, hz, _ => ⟨h0, by simpa using hz⟩
  | q :: v, z, B, h0, hz, h => by
    obtain ⟨h1, h2⟩ := h q List.mem_cons_self
    obtain ⟨h3, h4⟩ := below_sz v (lcmI z q.2) (B + C) (lcm_pos h0 h1) (lcm_sz hz h2) fun p hp => h p (List.mem_cons_of_mem _ hp)
    refine ⟨h3, ?_⟩
    have e : B + C * (q :: v).length = B + C + C * v.length := by
      rw [List.length_cons, Nat.mul_succ]
      omega
    rw [e]
    exact h4
abbrev lim : Int := 1000000000000
def shortV (v : List Q2) : Bool := decide (belowV v < lim) && v.all fun q => decide ((q.1 * (belowV v / q.2)).natAbs < 1000000000000)
theorem abs_eq (i : Int) : (if i < 0 then -i else i) = (i.natAbs : Int) := by
  split <;> omega
/-! ### values as lists: the base, then the slopes -/
def AllC (v : List Q2) : Prop := ∀ q ∈ v, Can q
def zeros (n : Nat) : List Q2 := List.replicate n (0, 1)
theorem zeros_can (n : Nat) : AllC (zeros n) := fun q h => by
  rw [(List.mem_replicate.mp h).2]
  exact can_one 0
theorem set_can {v : List Q2} {i : Nat} {q : Q2} (h : AllC v) (hq : Can q) : AllC (v.set i q) := fun p hp => by
  rcases List.mem_or_eq_of_mem_set hp with z | z
  · exact h p z
  · rw [z]
    exact hq
/-- the term f at the place p among n + 1 -/
def oneAt (n p : Nat) (f : Q2) : List Q2 := (zeros (n + 1)).set p f
theorem oneAt_len (n p : Nat) (f : Q2) : (oneAt n p f).length = n + 1 := by
  unfold oneAt zeros
  rw [List.length_set, List.length_replicate]
theorem plus_oneAt : ∀ (v : List Q2) (p : Nat) (f : Q2), AllC v → p < v.length → List.zipWith plusQ v ((zeros v.length).set p f) = v.set p (plusQ (v.getD p (0, 1)) f)
  | [], p, f, _, h => absurd h (Nat.not_lt_zero _)
  | q :: v, 0, f, hc, hz => by
    show plusQ q f :: List.zipWith plusQ v (zeros v.length) = plusQ q f :: v
    congr 1
    have hv : AllC v := fun p hp => hc p (List.mem_cons_of_mem _ hp)
    clear hc hz
    induction v with
    | nil => rfl
    | cons a v ih =>
      show plusQ a (0, 1) :: List.zipWith plusQ v (zeros v.length) = a :: v
      rw [plus_zero (hv a List.mem_cons_self), ih fun p hp => hv p (List.mem_cons_of_mem _ hp)]
  | q :: v, p + 1, f, hc, h => by
    show plusQ q (0, 1) :: List.zipWith plusQ v ((zeros v.length).set p f) = q :: v.set p (plusQ (v.getD p (0, 1)) f)
    rw [plus_zero (hc q List.mem_cons_self), plus_oneAt v p f (fun a ha => hc a (List.mem_cons_of_mem _ ha)) (Nat.lt_of_succ_lt_succ h)]
theorem map_neg_zeros (n : Nat) : (zeros n).map negQ = zeros n := by
  unfold zeros
  rw [List.map_replicate]
  rfl
theorem map_neg_oneAt (n p : Nat) (f : Q2) : (oneAt n p f).map negQ = oneAt n p (negQ f) := by
  unfold oneAt
  rw [List.map_set, map_neg_zeros]
theorem getD_zeros (n p : Nat) : (zeros n).getD p (0, 1) = (0, 1) := by
  unfold zeros
  rw [List.getD_eq_getElem?_getD, List.getElem?_replicate]
  split <;> rfl
end Tp
/-! Plain Lean: texts as code lists, terms, items, what the reader meets. -/
namespace Tp
open PySem PySem.NumText
def dg (n : Nat) : List Nat := (Nat.toDigits 10 n).map Char.toNat
theorem dg_len (n : Nat) : (dg n).length = ln n := List.length_map ..
theorem dg_digits (n : Nat) : AllDigits (dg n) := fun c hc => by
  obtain ⟨ch, hch, e⟩ := List.mem_map.mp hc
  have r := PyProof.Rows.digit_range (Nat.isDigit_of_mem_toDigits (by decide) (by decide) hch)
  rw [← e]
  exact r
theorem dg_ne (n : Nat) : dg n ≠ [] := fun e => by
  have h := ln_pos n
  rw [← dg_len, e] at h
  exact absurd h (by decide)
theorem num_int {x : Str} {n : Nat} (h : x.cps.toList = dg n) (hl : ln n ≤ 640) : intText? x = some (n : Int) ∧ x.length ≤ 640 := by
  have hx : x.length = ln n := by
    rw [← dg_len, ← h]
    exact Array.length_toList.symm
  refine ⟨?_, by omega⟩
  have e := intText_digits (x := x) (by rw [h]; exact dg_digits n) (by rw [h]; exact dg_ne n) (by omega)
  rw [e, h]
  unfold dg
  rw [PySem.W.KIN.val_back]
/-! ### rows of signs -/
def digL : List Nat := [48, 49, 50, 51, 52, 53, 54, 55, 56, 57]
def isD (c : Nat) : Bool := decide (c ∈ digL)
theorem isD_iff {c : Nat} : isD c = true ↔ (48 ≤ c ∧ c ≤ 57) := by
  unfold isD digL
  rw [decide_eq_true_iff]
  simp only [List.mem_cons, List.not_mem_nil, or_false]
  omega
def letL : List Nat := (List.range 26).map (· + 97) ++ (List.range 26).map (· + 65)
def isL (c : Nat) : Bool := decide (c ∈ letL)
theorem isL_iff {c : Nat} : isL c = true ↔ ((97 ≤ c ∧ c ≤ 122) ∨ (65 ≤ c ∧ c ≤ 90)) := by
  unfold isL letL
  rw [decide_eq_true_iff]
  simp only [List.mem_append, List.mem_map, List.mem_range]
  constructor
  · rintro (⟨k, h, e⟩ | ⟨k, h, e⟩)
    · omega
    · omega
  · rintro (h | h)
    · exact .inl ⟨c - 97, by omega, by omega⟩
    · exact .inr ⟨c - 65, by omega, by omega⟩
def isN (c : Nat) : Bool := isL c || isD c || decide (c = 95)
def isB (c : Nat) : Bool := decide (c = 32)
def run (p : Nat → Bool) (cs : List Nat) (i : Nat) : Nat := ((cs.drop i).takeWhile p).length
theorem run_some {p : Nat → Bool} {cs : List Nat} {i c : Nat} (h : cs[i]? = some c) (hp : p c = true) : run p cs i = run p cs (i + 1) + 1 := by
  unfold run
  obtain ⟨hi, e⟩ := List.getElem?_eq_some_iff.mp h
  rw [List.drop_eq_getElem_cons hi, e, List.takeWhile_cons, if_pos hp, List.length_cons]
theorem run_no {p : Nat → Bool} {cs : List Nat} {i c : Nat} (h : cs[i]? = some c) (hp : p c = false) : run p cs i = 0 := by
  unfold run
  obtain ⟨hi, e⟩ := List.getElem?_eq_some_iff.mp h
  rw [List.drop_eq_getElem_cons hi, e, List.takeWhile_cons, if_neg (by rw [hp]; exact Bool.false_ne_true)]
  rfl
theorem run_out {p : Nat → Bool} {cs : List Nat} {i : Nat} (h : cs.length ≤ i) : run p cs i = 0 := by
  unfold run
  rw [List.drop_eq_nil_of_le h]
  rfl
/-- a row of p ends ahead of r -/
def Stop (p : Nat → Bool) (r : List Nat) : Prop := ∀ c, r.head? = some c → p c = false
theorem takeWhile_stop {p : Nat → Bool} : ∀ {u r : List Nat}, (∀ c ∈ u, p c = true) → Stop p r → (u ++ r).takeWhile p = u
  | [], [], _, _ => rfl
  | [], c :: r, _, hs => by
    show List.takeWhile p (c :: r) = []
    rw [List.takeWhile_cons, if_neg (by rw [hs c rfl]; exact Bool.false_ne_true)]
  | c :: u, r, hu, hs => by
    show List.takeWhile p (c :: (u ++ r)) = c :: u
    rw [List.takeWhile_cons, if_pos (hu c List.mem_cons_self), takeWhile_stop (fun d hd => hu d (List.mem_cons_of_mem _ hd)) hs]
theorem run_of {p : Nat → Bool} {cs u r : List Nat} {i : Nat} (h : cs.drop i = u ++ r) (hu : ∀ c ∈ u, p c = true) (hs : Stop p r) : run p cs i = u.length := by
  unfold run
  rw [h, takeWhile_stop hu hs]
theorem drop_more {cs u r : List Nat} {i : Nat} (h : cs.drop i = u ++ r) : cs.drop (i + u.length) = r := by
  rw [← List.drop_drop, h, List.drop_left]
theorem at_drop {cs r : List Nat} {i c : Nat} (h : cs.drop i = c :: r) : cs[i]? = some c := by
  have e : (cs.drop i)[0]? = some c := by rw [h]; rfl
  rw [List.getElem?_drop] at e
  simpa using e
theorem lt_drop {cs r : List Nat} {i c : Nat} (h : cs.drop i = c :: r) : i < cs.length := (List.getElem?_eq_some_iff.mp (at_drop h)).1
theorem ge_drop {cs : List Nat} {i : Nat} (h : cs.drop i = []) : cs.length ≤ i := List.drop_eq_nil_iff.mp h
theorem drop_one {cs r : List Nat} {i c : Nat} (h : cs.drop i = c :: r) : cs.drop (i + 1) = r := drop_more (u := [c]) (r := r) h
theorem take_drop {cs u r : List Nat} {i : Nat} (h : cs.drop i = u ++ r) : (cs.drop i).take u.length = u := by
  rw [h]
  exact List.take_left
def bk (b : Bool) : List Nat := if b = true then [32] else []
theorem bk_blank (b : Bool) : ∀ c ∈ bk b, isB c = true := by
  cases b with
  | true =>
    intro c hc
    rw [List.mem_singleton.mp hc]
    rfl
  | false =>
    intro c hc
    cases hc
/-! ### names, terms, items -/
structure NamesOk (names : List Str) : Prop where
  sg : ∀ (i : Nat) (a : Str), names[i]? = some a → ∃ c r, a.cps.toList = c :: r ∧ isL c = true ∧ ∀ d ∈ r, isN d = true
  inj : ∀ (i j : Nat) (a : Str), names[i]? = some a → names[j]? = some a → i = j
structure Tm where
  top : Nat
  low : Nat
  place : Nat
  st : Bool
  bare : Bool
  bl : Bool
structure Tm.Ok (n : Nat) (t : Tm) : Prop where
  top : t.top < 100000000000
  low1 : 1 ≤ t.low
  low2 : t.low ≤ 10000
  pl : t.place ≤ n
def Tm.num (t : Tm) : List Nat := dg t.top ++ (if t.st = true then 47 :: dg t.low else [])
def nmAt (names : List Str) (k : Nat) : List Nat := (names.getD k ⟨#[]⟩).cps.toList
def Tm.text (names : List Str) (t : Tm) : List Nat :=
  if t.place = 0 then t.num else if t.bare = true then nmAt names (t.place - 1) else t.num ++ (bk t.bl ++ 42 :: (bk t.bl ++ nmAt names (t.place - 1)))
def Tm.nval (t : Tm) : Q2 := if t.st = true then fr t.top t.low else ((t.top : Int), 1)
def Tm.val (t : Tm) : Q2 := if t.place ≠ 0 ∧ t.bare = true then (1, 1) else t.nval
theorem Tm.nval_can {t : Tm} {n : Nat} (h : t.Ok n) : Can t.nval := by
  unfold Tm.nval
  have := h.low1
  split
  · exact fr_can (by omega)
  · exact can_one _
theorem Tm.val_can {t : Tm} {n : Nat} (h : t.Ok n) : Can t.val := by
  unfold Tm.val
  split
  · exact can_one 1
  · exact Tm.nval_can h
theorem Tm.nval_sz {t : Tm} {n : Nat} (h : t.Ok n) : Sz 37 t.nval := by
  unfold Tm.nval
  have h1 := h.low1
  have h2 := h.low2
  have h3 := h.top
  have e : (2 : Nat) ^ 37 = 137438953472 := by decide
  split
  · exact fr_sz (by omega) (by rw [e]; omega) (by rw [e]; omega)
  · exact ⟨by rw [e]; show ((t.top : Int)).natAbs < _; omega, by show (0 : Int) < 1; decide, by rw [e]; show (1 : Int).natAbs < _; decide⟩
theorem Tm.val_sz {t : Tm} {n : Nat} (h : t.Ok n) : Sz 37 t.val := by
  unfold Tm.val
  split
  · exact ⟨by decide, by decide, by decide⟩
  · exact Tm.nval_sz h
structure It where
  neg : Bool
  sb : Bool
  eb : Bool
  t : Tm
def It.sign (first : Bool) (x : It) : List Nat := if first = true ∧ x.neg = false then [] else (if x.neg = true then 45 else 43) :: bk x.sb
def It.text (names : List Str) (first : Bool) (x : It) : List Nat := x.sign first ++ (x.t.text names ++ bk x.eb)
def It.val (x : It) : Q2 := if x.neg = true then negQ x.t.val else x.t.val
def goT (names : List Str) : Bool → List It → List Nat
  | _, [] => []
  | f, x :: r => x.text names f ++ goT names false r
def exT (names : List Str) (lead : Bool) (its : List It) : List Nat := bk lead ++ goT names true its
theorem go_snoc (names : List Str) (x : It) : ∀ (its : List It) (f : Bool), goT names f (its ++ [x]) = goT names f its ++ x.text names (f && its.isEmpty)
  | [], f => by
    show x.text names f ++ [] = [] ++ x.text names (f && true)
    rw [List.append_nil, List.nil_append, Bool.and_true]
  | y :: r, f => by
    show y.text names f ++ goT names false (r ++ [x]) = (y.text names f ++ goT names false r) ++ x.text names (f && false)
    rw [go_snoc names x r false, List.append_assoc, Bool.and_false, Bool.false_and]
theorem ex_snoc (names : List Str) (lead : Bool) (its : List It) (x : It) : exT names lead (its ++ [x]) = exT names lead its ++ x.text names its.isEmpty := by
  unfold exT
  rw [go_snoc, List.append_assoc, Bool.true_and]
/-- what the sum is -/
def stepV (v : List Q2) (x : It) : List Q2 := v.set x.t.place (plusQ (v.getD x.t.place (0, 1)) x.val)
def vecOf (n : Nat) (its : List It) : List Q2 := its.foldl stepV (zeros (n + 1))
theorem vec_snoc (n : Nat) (its : List It) (x : It) : vecOf n (its ++ [x]) = stepV (vecOf n its) x := by
  unfold vecOf
  rw [List.foldl_append]
  rfl
def AllOk (n : Nat) (its : List It) : Prop := ∀ x ∈ its, x.t.Ok n
theorem It.val_can {x : It} {n : Nat} (h : x.t.Ok n) : Can x.val := by
  unfold It.val
  split
  · exact neg_can (Tm.val_can h)
  · exact Tm.val_can h
theorem It.val_sz {x : It} {n : Nat} (h : x.t.Ok n) : Sz 37 x.val := by
  unfold It.val
  split
  · exact neg_sz (Tm.val_sz h)
  · exact Tm.val_sz h
structure VOk (n B : Nat) (v : List Q2) : Prop where
  len : v.length = n + 1
  can : AllC v
  sz : ∀ q ∈ v, Sz B q
theorem VOk.zeros (n : Nat) : VOk n 1 (Tp.zeros (n + 1)) := ⟨List.length_replicate .., zeros_can _, fun q h => by
  rw [(List.mem_replicate.mp h).2]
  exact zero_sz⟩
theorem VOk.mono {n B C : Nat} {v : List Q2} (h : VOk n B v) (l : B ≤ C) : VOk n C v := ⟨h.len, h.can, fun q hq => (h.sz q hq).mono l⟩
theorem VOk.get {n B p : Nat} {v : List Q2} (h : VOk n B v) (hp : p ≤ n) : v[p]? = some (v.getD p (0, 1)) := by
  have := h.len
  rw [List.getD_eq_getElem?_getD, List.getElem?_eq_getElem (show p < v.length by omega)]
  rfl
theorem VOk.at {n B p : Nat} {v : List Q2} (h : VOk n B v) (hp : p ≤ n) : Can (v.getD p (0, 1)) ∧ Sz B (v.getD p (0, 1)) := by
  have m := List.mem_of_getElem? (h.get hp)
  exact ⟨h.can _ m, h.sz _ m⟩
theorem VOk.step {n B : Nat} {v : List Q2} {x : It} (h : VOk n B v) (hx : x.t.Ok n) : VOk n (B + 38) (stepV v x) := by
  obtain ⟨h1, h2⟩ := h.at hx.pl
  refine ⟨by unfold stepV; rw [List.length_set]; exact h.len, set_can h.can (plus_can h1.pos (It.val_can hx).pos), fun q hq => ?_⟩
  rcases List.mem_or_eq_of_mem_set hq with z | z
  · exact (h.sz q z).mono (by omega)
  · rw [z]
    exact plus_sz h2 (It.val_sz hx)
theorem vec_ok (n : Nat) : ∀ (its : List It) (v : List Q2) (B : Nat), VOk n B v → AllOk n its → VOk n (B + 38 * its.length) (its.foldl stepV v)
  | [], v, B, h, _ => h
  | x :: r, v, B, h, ha => by
    have e : B + 38 * (x :: r).length = B + 38 + 38 * r.length := by rw [List.length_cons]; omega
    rw [e]
    exact vec_ok n r (stepV v x) (B + 38) (h.step (ha x List.mem_cons_self)) fun y hy => ha y (List.mem_cons_of_mem _ hy)
theorem vecOf_ok {n : Nat} {its : List It} (ha : AllOk n its) (hl : its.length ≤ 9) : VOk n 350 (vecOf n its) :=
  (vec_ok n its _ 1 (VOk.zeros n) ha).mono (by omega)
/-- the reader's sum is the same -/
theorem add_term {n B : Nat} {v : List Q2} {x : It} (h : VOk n B v) (hx : x.t.Ok n) : List.zipWith plusQ v (oneAt n x.t.place x.val) = stepV v x := by
  unfold stepV oneAt
  rw [← h.len]
  exact plus_oneAt v _ _ h.can (by have := h.len; have := hx.pl; omega)
theorem first_term {n : Nat} {x : It} (hx : x.t.Ok n) : vecOf n [x] = oneAt n x.t.place x.val := by
  show (zeros (n + 1)).set _ (plusQ ((zeros (n + 1)).getD _ (0, 1)) x.val) = _
  rw [getD_zeros, zero_plus (It.val_can hx)]
  rfl
/-! ### what stands where -/
structure Follow (r : List Nat) : Prop where
  hd : ∀ c, r.head? = some c → c = 32 ∨ c = 43 ∨ c = 45
  no : ∀ c, (r.drop (run isB r 0)).head? = some c → c ≠ 42
theorem go_head (names : List Str) : ∀ (its : List It) (c : Nat), (goT names false its).head? = some c → c = 43 ∨ c = 45
  | [], c, h => by cases h
  | x :: r, c, h => by
    unfold goT It.text It.sign at h
    rw [if_neg (by simp)] at h
    have e : (if x.neg = true then 45 else 43) = c := Option.some.inj h
    cases hn : x.neg with
    | true =>
      rw [hn] at e
      exact .inr e.symm
    | false =>
      rw [hn] at e
      exact .inl e.symm
theorem go_stop (names : List Str) (its : List It) : Stop isB (goT names false its) := fun c h => by
  unfold isB
  rcases go_head names its c h with z | z <;> rw [z] <;> rfl
theorem follow (names : List Str) (b : Bool) (its : List It) : Follow (bk b ++ goT names false its) := by
  have hr : run isB (bk b ++ goT names false its) 0 = (bk b).length := run_of rfl (bk_blank b) (go_stop names its)
  refine ⟨fun c h => ?_, fun c h => ?_⟩
  · cases b with
    | true => exact .inl (Option.some.inj h).symm
    | false => exact .inr (go_head names its c h)
  · rw [hr, List.drop_left] at h
    rcases go_head names its c h with z | z <;> rw [z] <;> decide
theorem dg_head (n : Nat) : ∃ c r, dg n = c :: r ∧ isD c = true := by
  have h := dg_digits n
  have h2 := dg_ne n
  cases e : dg n with
  | nil => exact absurd e h2
  | cons c r => exact ⟨c, r, rfl, isD_iff.mpr (h c (by rw [e]; exact List.mem_cons_self))⟩
theorem dg_isD (n : Nat) : ∀ c ∈ dg n, isD c = true := fun c hc => isD_iff.mpr (dg_digits n c hc)
theorem nm_at {names : List Str} {k : Nat} {a : Str} (h : names[k]? = some a) : nmAt names k = a.cps.toList := by
  unfold nmAt
  rw [List.getD_eq_getElem?_getD, h]
  rfl
theorem nm_is {names : List Str} {k : Nat} (hk : k < names.length) : ∃ a, names[k]? = some a := ⟨_, List.getElem?_eq_getElem hk⟩
theorem Tm.num_head (t : Tm) : ∃ c r, t.num = c :: r ∧ isD c = true := by
  obtain ⟨c, r, e, h⟩ := dg_head t.top
  unfold Tm.num
  rw [e]
  exact ⟨c, _, rfl, h⟩
/-- a term's text begins by a letter or a digit -/
theorem Tm.head {names : List Str} {t : Tm} (hN : NamesOk names) (h : t.Ok names.length) : ∃ c r, t.text names = c :: r ∧ (isD c = true ∨ isL c = true) := by
  unfold Tm.text
  split
  · obtain ⟨c, r, e, hd⟩ := t.num_head
    exact ⟨c, r, e, .inl hd⟩
  · rename_i hp
    have hpl := h.pl
    obtain ⟨a, ha⟩ := nm_is (names := names) (k := t.place - 1) (by omega)
    split
    · obtain ⟨c, r, e, hl, _⟩ := hN.sg _ a ha
      rw [nm_at ha, e]
      exact ⟨c, r, rfl, .inr hl⟩
    · obtain ⟨c, r, e, hd⟩ := t.num_head
      rw [e]
      exact ⟨c, _, rfl, .inl hd⟩
theorem Tm.no_blank {names : List Str} {t : Tm} (hN : NamesOk names) (h : t.Ok names.length) (u : List Nat) : Stop isB (t.text names ++ u) := fun c hc => by
  obtain ⟨d, r, e, hd⟩ := Tm.head hN h
  rw [e] at hc
  have ec : d = c := Option.some.inj hc
  subst ec
  unfold isB
  refine decide_eq_false fun z => ?_
  rw [z] at hd
  revert hd
  decide
theorem Tm.no_minus {names : List Str} {t : Tm} (hN : NamesOk names) (h : t.Ok names.length) {c : Nat} {u r : List Nat} (e : t.text names ++ u = c :: r) : c ≠ 45 := by
  obtain ⟨d, r', e', hd⟩ := Tm.head hN h
  rw [e'] at e
  have ec : d = c := by injection e
  subst ec
  rintro z
  rw [z] at hd
  revert hd
  decide
theorem nm_all {names : List Str} {k : Nat} {a : Str} (hN : NamesOk names) (h : names[k]? = some a) : ∀ c ∈ a.cps.toList, isN c = true := fun c hc => by
  obtain ⟨d, r, e, hl, hr⟩ := hN.sg k a h
  rw [e] at hc
  rcases List.mem_cons.mp hc with z | z
  · rw [z]
    unfold isN
    rw [hl]
    rfl
  · exact hr c z
theorem Follow.stopN {r : List Nat} (h : Follow r) : Stop isN r := fun c hc => by
  rcases h.hd c hc with z | z | z <;> rw [z] <;> decide
theorem Follow.stopD {r : List Nat} (h : Follow r) : Stop isD r := fun c hc => by
  rcases h.hd c hc with z | z | z <;> rw [z] <;> decide
theorem Follow.noStroke {r : List Nat} (h : Follow r) : r.head? ≠ some 47 := fun hc => by
  rcases h.hd 47 hc with z | z | z <;> exact absurd z (by decide)
/-- ahead of a star -/
theorem star_stopD (b : Bool) (u : List Nat) : Stop isD (bk b ++ 42 :: u) := fun c hc => by
  cases b with
  | true =>
    have e : 32 = c := Option.some.inj hc
    rw [← e]
    decide
  | false =>
    have e : 42 = c := Option.some.inj hc
    rw [← e]
    decide
theorem star_noStroke (b : Bool) (u : List Nat) : (bk b ++ 42 :: u).head? ≠ some 47 := fun hc => by
  cases b with
  | true => exact absurd (Option.some.inj hc) (by decide)
  | false => exact absurd (Option.some.inj hc) (by decide)
theorem star_stopB (u : List Nat) : Stop isB (42 :: u) := fun c hc => by
  have e : 42 = c := Option.some.inj hc
  rw [← e]
  rfl
theorem nm_stopB {names : List Str} {k : Nat} {a : Str} (hN : NamesOk names) (h : names[k]? = some a) (u : List Nat) : Stop isB (a.cps.toList ++ u) := fun c hc => by
  obtain ⟨d, r, e, hl, hr⟩ := hN.sg k a h
  rw [e] at hc
  have ec : d = c := Option.some.inj hc
  subst ec
  unfold isB
  refine decide_eq_false fun z => ?_
  rw [z] at hl
  revert hl
  decide
end Tp
/-! TextFault.__init__: super().__init__(f'..'), then two fields. -/
namespace Tp
open PySem PySem.Spec PyProof.Rows L2
def topS (i : Nat) : Stmt := PySem.Challenge.pw_truepart_k05_whole_expressions_are_read.main.body.getD i (.Pass ⟨0, 0, 0, 0⟩)
abbrev sInit : Stmt := inClass (topS 2) 0
def nfI (cc cda : Addr) : NdefX.NF := ⟨"__init__", "TextFault.__init__", defArgs sInit, defBody sInit, defScope sInit, [("__class__", cc)], cda⟩
/-- what the written part says of the class and its __init__ -/
structure ITxt (K : PySem.W.Frag) (mg : Str → Option Value) (C fI cc cda : Addr) (fd : FuncData) : Prop where
  ox : OexC K C
  fn : ∃ (oc : Value) (od : Option Addr) (doc pm ct : Value) (osl : Array (Option Value)), fd = (nfI cc cda).fd doc pm ct ∧ K.lookup fI = some ⟨oc, od, .func fd, osl⟩
  code : PySem.W.codeIn K (.ref cda) "TextFault.__init__" = true
  cell : ∃ cl cld csl, K.lookup cc = some ⟨cl, cld, .cell (some (.ref C)), csl⟩
  cdo : ∃ ccl cdd vs ccs file tf, K.lookup cda = some ⟨ccl, cdd, .fields vs, ccs⟩ ∧ vs[2]? = some (.str file tf) ∧ ((PySem.Challenge.pw_truepart_k05_whole_expressions_are_read.main.file : Str) == file) = true
  sup : PySem.W.ks_superIn K C C "__init__" = some (some (.builtin "ValueError.__init__"))
  op : PySem.W.nsIn K cStatics "thirdparty.any" = some none
  msup : mg "super" = none
  subV : PySem.W.subIn K (.ref C) (.type "ValueError") = some true
  self : PySem.W.mroIn K C (.ref C) = some true
  nl : PySem.W.findIn K (.ref C) "line" = some none
  nc : PySem.W.findIn K (.ref C) "column" = some none
theorem scI : NdefX.NScope ["self", "line", "column", "__class__"] ["self", "line", "column"] ["__class__"] (defScope sInit) := NdefX.nscope_by (by decide +kernel)
section
open PySem.W
variable {P : Program} {w : World} {A : Around} {E : Value → Shared → Prop} {h : Heap} {g : Array GenState} {d : Drawn} {t : Nat} {os : OsState}
/-- the bound __init__ of ValueError is called -/
theorem call_mw {nm q : Str} {C N : Addr} {bs bm : List Value} {hdct : Bool} {sn : List Str} {sub : List Value} {ab : Bool} {col : Option Bool} {dd : Option Addr} {k0 k1 k2 k3 k5 : Option Value} {u e t0 : Addr} {rest : List Value} {Q : Value → Shared → Prop}
    (hC : h.get? C = some (excClassObj nm q C N bs bm hdct sn sub ab col dd k0 k1 k2 k3 k5 "ValueError.__new__")) (he : h.get? e = some (HandSPX.excO C t0)) (hu : h.get? u = some (kxs_mw "ValueError.__init__" e)) (hz : rest.length ≤ sizeLine)
    (hq : ∀ h' t1, (∀ b o, b ≠ e → h.get? b = some o → h'.get? b = some o) → h'.get? e = some (HandSPX.excO C t1) → Q .none ⟨h', g, d, t, os⟩) :
    wpAny (model P w) A (call (.ref u) rest) Q E ⟨h, g, d, t, os⟩ := by
  refine wpAny_call (codeAny_of_tree ?_)
  show wpAny _ A.in1 (callAny (.ref u) ⟨rest, []⟩) _ _ _
  simp only [callAny]
  refine wpAny_bind (wpAny_load hu ?_)
  simp only [kxs_mw, show (Value.type "method-wrapper" == Value.type "method" || Value.type "method-wrapper" == Value.type "builtin_function_or_method" || Value.type "method-wrapper" == Value.type "method-wrapper") = true by decide, if_true]
  refine KFB.if_so (by decide) ?_
  refine wpAny_bind (check_bound_init F.excBase_ValueError.toExcCallFacts hC he rfl ?_)
  refine wpAny_bind (wpAny_pure (wpAny_pure ?_))
  refine ⟨plainId_quiet F.excBase_ValueError.init.plain _, codeAny_builtin F.excBase_ValueError.initEntry ?_⟩
  exact exc_init_tree (cls := .ref C) (t0 := t0) (dv := none) (c2 := .none) (c3 := .none) (b4 := .bool false) he hz fun h' k e' _ => hq h' _ k e'
end
/-- the promise, of the only fault that is raised here (line 1, column 1): two fields come, line first -/
def spInit (C : Addr) : Sp := fun vs H Q _ => ∃ (a : Addr), vs = [.ref a, .int 1, .int 1] ∧ H a = some (exo a C none) ∧
  ∀ dx, H dx = none → dx ≠ a → Q .non (upd (upd (upd H dx (exd dx [("line", .int 1)])) a (exo a C (some dx))) dx (exd dx [("column", .int 1), ("line", .int 1)]))
def sBody2 : List Stmt := (defBody sInit).drop 1
def pjI {X : Cx} {v1 v2 v3 v4 : Expr} {t1 t2 t3 t4 : TE} (h1 : PE X v1 t1) (h2 : PE X v2 t2) (h3 : PE X v3 t3) (h4 : PE X v4 t4) : PJ X [v1, v2, v3, v4] [t1, t2, t3, t4] := .cons h1 (.cons h2 (.cons h3 (.cons h4 .nil)))
section
variable {P : Program} {w : World} {K : PySem.W.Frag} {mg : Str → Option Value} {base : Heap} {C fI cc cda : Addr} {fd : FuncData}
theorem ok_init (hP : P = PySem.Challenge.pw_truepart_k05_whole_expressions_are_read) (T : ITxt K mg C fI cc cda fd) : FnOk P w K mg base CX0 2 fI fd ["self", "line", "column"] (spInit C) := by
  refine ⟨fun vs H Q E h => ?_, fun A outer s H args us vs Q E hr e0 hb r hsp => ?_⟩
  · obtain ⟨a, rfl, _⟩ := h
    rfl
  have KX : K.In s.heap := e0.mod.kin.keeps fun b o e => (e0.bs b o e).1
  have lim : s.heap.NoLimit := e0.mod.nolimit.keeps fun b o e => (e0.bs b o e).1
  obtain ⟨a, rfl, ea, k⟩ := hsp
  obtain ⟨oc, od, doc, pm, ct, osl, rfl, lk⟩ := T.fn
  obtain ⟨cl, cld, csl, lcc⟩ := T.cell
  obtain ⟨ccl, cdd, cvs, ccs, file, tf, lcd, hv2, hfile⟩ := T.cdo
  obtain ⟨nm, q, N, bs, bm, sn, sub, ab, col, dd, k0, k1, k2, k3, k5, lC, hbm⟩ := T.ox.cls
  have CA : NdefX.CellsAt (nfI cc cda).cl ["__class__"] [some (.ref C)] s.heap H := {
    len := rfl
    all := fun y c e => by
      have e2 : c = cc := by
        have e' : (if (y == ("__class__" : Str)) = true then some cc else none) = some c := by
          have e9 : List.lookup y [(("__class__" : Str), cc)] = some c := e
          rw [List.lookup_cons] at e9
          split at e9
          · rename_i hy
            rw [if_pos hy]
            exact e9
          · cases e9
        split at e'
        · exact (Option.some.inj e').symm
        · cases e'
      subst e2
      have hb1 := e0.bs _ _ (e0.mod.kin _ _ lcc)
      exact ⟨hb1.2, _, _, hb1.1, rfl⟩
    inj := fun x y c e1 e2 => by
      have key : ∀ z : Str, List.lookup z [(("__class__" : Str), cc)] = some c → z = "__class__" := fun z e => by
        rw [List.lookup_cons] at e
        split at e
        · rename_i hz
          exact eq_of_beq hz
        · cases e
      rw [key x e1, key y e2]
    has := fun i y e => by
      cases i with
      | zero =>
        have ey : "__class__" = y := Option.some.inj e
        subst ey
        refine ⟨cc, by show List.lookup ("__class__" : Str) [(("__class__" : Str), cc)] = some cc; simp [List.lookup], fun v hv => ?_⟩
        have ev : V.ref C = v := Option.some.inj (Option.some.inj hv)
        subst ev
        exact ⟨.ref C, rfl, _, (e0.bs _ _ (e0.mod.kin _ _ lcc)).1, rfl⟩
      | succ i => cases e }
  refine PySem.ks_codeAny_call_defAt (by have := hr.dp; omega) (KX _ _ lk) rfl lim (PySem.W.codeRec_of KX T.code) rfl hb scI.nocell (fun y hy => ?_) (fun h0 hns kp => ?_) rfl rfl rfl
  · exact scI.par y.1 (List.of_mem_zip (show (y.1, y.2) ∈ _ from hy)).1
  have I : Inv (NdefX.ncx CX0 P w K mg base ["self", "line", "column", "__class__"] (nfI cc cda) fI A outer s H E) [] (NdefX.startF ["self", "line", "column", "__class__"] [.ref a, .int 1, .int 1] [some (.ref C)]) H
      { s with heap := h0, toks := s.toks + (List.zip ["self", "line", "column"] us).length } := NdefX.inv_startN scI hr.hd e0 rfl r CA hns kp
  have KX0 : K.In h0 := KX.keeps kp
  obtain ⟨t1, he0⟩ := exo_at I.hok ea
  have he0 : h0.get? a = some (HandSPX.excO C t1) := he0
  have hCd : PySem.W.clsIn K C = some { name := nm, bases := bs, mro := .ref C :: bm, ns := N, qualname := q, hasDict := true, slotNames := sn, subclasses := sub, abstract := ab, collection := col, hasDel := false } := by
    unfold PySem.W.clsIn
    rw [lC] <;> rfl
  have IA : PySem.W.InstAt h0 a (HandSPX.excO C t1) C none := ⟨he0, rfl, rfl, trivial⟩
  obtain ⟨mb, hb1, hb2⟩ := e0.mod.blt
  have kb : ∀ b o, base.get? b = some o → h0.get? b = some o := fun b o e => kp _ _ (e0.bs b o e).1
  cases r with
  | @cons _ u0 _ ur ru rr =>
  obtain rfl : u0 = Value.ref a := ru
  have hself : (List.zip (["self", "line", "column"] : List Str) (Value.ref a :: ur)).reverse.lookup ("self" : Str) = some (Value.ref a) :=
    NdefX.zip_look (i := 0) (by decide +kernel) rfl rfl
  refine PySem.ks_wpAt_execs_cons (PySem.ks_wpAt_Expr_any (PySem.ks_wpAt_MethodCall (PySem.ks_wpAt_super_base (env := NdefX.envF (nfI cc cda) fI s.heap.objs.size) (by rfl) (by rfl) (by decide) rfl (KX0 _ _ lk) rfl (by rfl) rfl (KX0 _ _ lcd) rfl hv2 (by rw [hP]; exact hfile) (by rw [hP]; rfl) ?_)))
  refine PySem.W.ks_loadName_global rfl (by rfl) (Calls.loadGlobal_builtin (e0.mod.glob.keeps kb) T.msup (hb1.keeps kb) ((hb2 _ (by decide +kernel)).trans (show bootBuiltins "super" = some (.type "super") from by decide +kernel)) ⟨rfl, ?_⟩)
  refine wpAny_loadName_free rfl (by rfl) (c := cc) (by show List.lookup ("__class__" : Str) [(("__class__" : Str), cc)] = some cc; simp [List.lookup]) ⟨_, KX0 _ _ lcc, rfl⟩ ?_
  refine wpAny_loadName_local rfl (by rfl) hns hself ?_
  obtain ⟨oC, hC1, hC2⟩ : ∃ oC, h0.get? C = some oC ∧ oC.data = .cls { name := nm, bases := bs, mro := .ref C :: bm, ns := N, qualname := q, hasDict := true, slotNames := sn, subclasses := sub, abstract := ab, collection := col, hasDel := false } := ⟨_, KX0 _ _ lC, rfl⟩
  refine PySem.ks_wpAny_isType_cls hC1 hC2 ⟨rfl, ?_⟩
  refine PySem.ks_wpAny_call_super hC1 hC2 he0 rfl (fun c e => by cases e) (PySem.W.looks_mroIn KX0 T.self) (fun h1 hso kp1 => ?_)
  have KX1 : K.In h1 := KX0.keeps kp1
  have he1 := kp1 _ _ he0
  have hI : PySem.W.Looks (model P w) h1 (isInstance (.ref a) (.type "ValueError")) true := (show PySem.W.InstAt h1 a (HandSPX.excO C t1) C none from ⟨he1, rfl, rfl, trivial⟩).type.andThen (PySem.W.looks_subIn KX1 T.subV)
  have hsup := T.sup
  unfold PySem.W.ks_superIn at hsup
  rw [hCd] at hsup
  refine PySem.W.kxs_getMethod PySem.W.kxs_ValueError hso (PySem.W.looks_opaque KX1 T.op) (l₀ := .ref C :: bm) (fun A Q E s k q => wpAny_bind ((PySem.W.looks_clsIn KX1 hCd) A _ E s k (wpAny_pure q))) rfl KX1 hsup hI (PySem.W.ks_ne KX0 IA hCd) (by decide) ?_
  have J0 : Inv (NdefX.ncx CX0 P w K mg base ["self", "line", "column", "__class__"] (nfI cc cda) fI A outer s H E) [] (NdefX.startF ["self", "line", "column", "__class__"] [.ref a, .int 1, .int 1] [some (.ref C)]) H
      { s with heap := h1, toks := s.toks + (List.zip (["self", "line", "column"] : List Str) (Value.ref a :: ur)).length } := I.kept (t' := _) kp1
  have J1 : Inv (NdefX.ncx CX0 P w K mg base ["self", "line", "column", "__class__"] (nfI cc cda) fI A outer s H E) [] (NdefX.startF ["self", "line", "column", "__class__"] [.ref a, .int 1, .int 1] [some (.ref C)]) H
      { s with heap := h1.push (PySem.W.kxs_mw "ValueError.__init__" a), toks := s.toks + (List.zip (["self", "line", "column"] : List Str) (Value.ref a :: ur)).length + 1 } := I.kept (t' := _) (fun b o e => Heap.get?_push_of_some _ (kp1 _ _ e))
  have J2 : Inv (NdefX.ncx CX0 P w K mg base ["self", "line", "column", "__class__"] (nfI cc cda) fI A outer s H E) [(h1.objs.size, PySem.W.kxs_mw "ValueError.__init__" a)] (NdefX.startF ["self", "line", "column", "__class__"] [.ref a, .int 1, .int 1] [some (.ref C)]) H
      { s with heap := h1.push (PySem.W.kxs_mw "ValueError.__init__" a), toks := s.toks + (List.zip (["self", "line", "column"] : List Str) (Value.ref a :: ur)).length + 1 } := by
    refine ⟨J1.ok, J1.os, J1.bare, J1.base, J1.loc, J1.cell, J1.free, J1.freeC, fun p hp => ?_, J1.hok, J1.len⟩
    have ep : p = (h1.objs.size, PySem.W.kxs_mw "ValueError.__init__" a) := List.mem_singleton.mp hp
    subst ep
    refine ⟨Heap.get?_push_at rfl rfl, J0.hok.fresh (Nat.le_refl _), fun z => ?_, J0.nofs (Nat.le_refl _), fun v z => by cases z⟩
    have z2 := J0.lt
    rw [← z] at z2
    exact Nat.lt_irrefl _ z2
  have ha : PA (NdefX.ncx CX0 P w K mg base ["self", "line", "column", "__class__"] (nfI cc cda) fI A outer s H E) _ _ := pa_cons (pe_joined (pjI (pe_str (x := "fault at line ") (j := 0) (pos := ⟨7, 27, 7, 41⟩)) (pe_fmt (pos := ⟨7, 41, 7, 47⟩) (pv 1 (x := "line") (pos := ⟨7, 42, 7, 46⟩))) (pe_str (x := ", column ") (j := 0) (pos := ⟨7, 47, 7, 56⟩)) (pe_fmt (pos := ⟨7, 56, 7, 64⟩) (pv 2 (x := "column") (pos := ⟨7, 57, 7, 63⟩)))) (pos := ⟨7, 25, 7, 65⟩)) pa_nil
  refine PySem.W.kxs_callWith (i := "ValueError.__init__") (x := a) rfl (Calls.evalArgs_plain ?_)
  refine thn (ha.run ⟨7, 8, 7, 66⟩ _ _ _ H (fun vs H' => ∃ z, vs = [V.str z] ∧ H' = H) J2 ?_) fun us2 s2 ⟨vs2, H2, I2, r2, z2, ev, eH⟩ => ?_
  · refine ⟨_, rfl, (by decide +kernel), _, rfl, .inr ⟨1, rfl, (by decide +kernel), _, rfl, (by decide +kernel), _, rfl, (by decide +kernel), _, rfl, .inr ⟨1, rfl, (by decide +kernel), _, rfl, (by decide +kernel), ?_⟩⟩⟩
    exact ⟨_, rfl, rfl⟩
  subst ev
  rw [eH] at I2
  cases r2 with
  | cons rv rn =>
  cases rn
  rename_i u2
  have gu : s2.heap.get? h1.objs.size = some (PySem.W.kxs_mw "ValueError.__init__" a) := (I2.pin (h1.objs.size, PySem.W.kxs_mw "ValueError.__init__" a) List.mem_cons_self).1
  obtain ⟨t2, he2⟩ := exo_at I2.hok ea
  obtain ⟨hp2, g2, d2, tk2, os2⟩ := s2
  refine ⟨gu, ?_⟩
  refine call_mw (I2.kIn _ _ lC) he2 gu (by show 1 ≤ sizeLine; rw [sizeLine_eq]; decide) fun h3 t3 k3 e3 => ?_
  have J3 := I2.write (t' := tk2) (x := a) (e := a) (o := exo a C none) (by rw [ea]; exact True.intro) (.inl rfl) k3 ⟨_, e3⟩ (exo_ok e3)
  have eu : upd H a (exo a C none) = H := by
    funext b
    by_cases hb : b = a
    · rw [hb, upd_same, ea]
    · rw [upd_ne hb]
  rw [eu] at J3
  refine wpAt_of_wpAny ?_
  have ht : PSs (NdefX.ncx CX0 P w K mg base ["self", "line", "column", "__class__"] (nfI cc cda) fI A outer s H E) sBody2 _ := pss_cons (ps_ost (pv 0) (pv 1)) (pss_one (ps_ost (pv 0) (pv 2)))
  refine wpAny_mono (ht.run _ _ _ H { nx := fun _ H' => Q .non H', rt := Q } J3 ?_) (fun fl s' hs => ?_) fun e s' hs => hs
  · refine ⟨_, rfl, _, rfl, a, C, rfl, T.ox, T.nl, .inl ⟨ea, fun dx nx ne => ?_⟩⟩
    refine ⟨_, rfl, _, rfl, a, C, rfl, T.ox, T.nc, .inr ⟨dx, _, upd_same, (upd_ne ne).trans upd_same, (by decide), ?_⟩⟩
    exact k dx nx ne
  · have fin : ∀ {σ' : L2.St} {H' : Hp} {v : V} {u : Value}, Inv (NdefX.ncx CX0 P w K mg base ["self", "line", "column", "__class__"] (nfI cc cda) fI A outer s H E) [(h1.objs.size, PySem.W.kxs_mw "ValueError.__init__" a)] σ' H' s' → L2.RelV v u → Q v H' → CE outer P w H s Q u s' :=
      fun {σ' H' v u} J rv q => ⟨v, H', J.os, J.bare, J.base, J.hok, rv, q⟩
    cases fl with
    | ret u =>
      obtain ⟨v, σ', H', J, rv, q⟩ := hs
      exact fin J rv q
    | next =>
      obtain ⟨σ', H', J, q⟩ := hs
      exact fin (v := V.non) (u := Value.none) J rfl q
    | brk =>
      obtain ⟨_, _, _, q⟩ := hs
      exact False.elim q
    | cont =>
      obtain ⟨_, _, _, q⟩ := hs
      exact False.elim q
end
end Tp
/-! all(abs(one[0] * (below // one[1])) < limit for one in row): row a list of pairs, below and limit captured. -/
namespace Tp
open PySem PySem.Spec PyProof.Rows L2
def IsFr (H : Hp) (a : Addr) (q : Q2) : Prop := H a = some (.tup [.int q.1, .int q.2])
inductive FrsAt (H : Hp) : List Addr → List Q2 → Prop where
  | nil : FrsAt H [] []
  | cons {a : Addr} {q : Q2} {as : List Addr} {qs : List Q2} (h : IsFr H a q) (r : FrsAt H as qs) : FrsAt H (a :: as) (q :: qs)
theorem FrsAt.len {H : Hp} : ∀ {as : List Addr} {qs : List Q2}, FrsAt H as qs → as.length = qs.length
  | _, _, .nil => rfl
  | _, _, .cons _ r => congrArg Nat.succ r.len
theorem FrsAt.get {H : Hp} : ∀ {as : List Addr} {qs : List Q2} {i : Nat} {q : Q2}, FrsAt H as qs → qs[i]? = some q → ∃ a, as[i]? = some a ∧ IsFr H a q
  | _, _, _, _, .nil, e => by simp at e
  | _, _, 0, q, .cons h _, e => by
    have e2 := Option.some.inj e
    subst e2
    exact ⟨_, rfl, h⟩
  | _, _, i + 1, q, .cons _ r, e => FrsAt.get (i := i) r e
theorem FrsAt.mono {H H' : Hp} (s : ∀ (b : Addr) (xs : List V), H b = some (.tup xs) → H' b = some (.tup xs)) : ∀ {as : List Addr} {qs : List Q2}, FrsAt H as qs → FrsAt H' as qs
  | _, _, .nil => .nil
  | _, _, .cons h r => .cons (s _ _ h) (r.mono s)
abbrev absI (i : Int) : Int := if i < 0 then -i else i
section
open PySem.W
variable {prog : Program} {w : World} {A : Around} {E : Value → Shared → Prop} {s : Shared} {cenv : Env} {m mg mb : Str → Option Value}
theorem ld_item {u : Addr} {its : Array Value} {v : Value} {i : Nat} {k : Nat} {p1 p2 p3 : Pos} {Q : Value → Shared → Prop} (hk : cenv.scope.kind = .function) (h1 : cenv.scope.names.lookup ("one" : Str) = some .local) (hn : s.heap.Ns cenv.locals m) (hm : m "one" = some (.ref u))
    (hu : IsTup s.heap u its) (hi : its[i]? = some v) (h63 : i < 1000) (hq : ∀ tk, Q v { s with toks := tk }) :
    wpAny (model prog w) A (eval (.Subscript (.Name "one" p1) (.Constant (.int (i : Nat)) k p2) p3) cenv) Q E s := by
  refine Subscript_ (wpAny_Name (wpAny_loadName_local hk (show cenv.scope.names.lookup ("one" : Str) = some .local from h1) hn hm ?_) (by decide))
  refine wpAny_Constant_int ?_
  have hj : seqIndex? (i : Int) its.size = some i := by
    have h9 := PySem.StrLaws.seqIndex_nonneg (i := (i : Int)) (n := its.size) (by omega) (by
      have h8 : i < its.size := (Array.getElem?_eq_some_iff.mp hi).1
      omega)
    rw [h9, Int.toNat_natCast]
  exact subscriptTail_builtinR (x := v) (IsTup.typeIs hu) slot_tuple_getitem.lookup
    (getItem_tuple (j := i) (Q := fun r s' => r = v ∧ Q r s') hu (by omega) (by omega) hj hi ⟨rfl, hq _⟩) (by first | rfl | with_unfolding_all rfl)
theorem elt_run {u cb cl : Addr} {n d bl lm : Int} {t1 t2 t3 t4 : Tok} {k1 k2 : Nat} {p1 p2 p3 p4 p5 p6 p7 p8 p9 q1 q2 q3 q4 : Pos} (hk : cenv.scope.kind = .function) (h1 : cenv.scope.names.lookup ("one" : Str) = some .local)
    (h2 : cenv.scope.names.lookup ("below" : Str) = some .free) (h3 : cenv.scope.names.lookup ("limit" : Str) = some .free) (h4 : cenv.scope.names.lookup ("abs" : Str) = some .globalImplicit)
    (hn : s.heap.Ns cenv.locals m) (hm : m "one" = some (.ref u)) (hu : IsTup s.heap u #[.int n t1, .int d t2])
    (hcb : cenv.cells.lookup ("below" : Str) = some cb) (hvb : s.heap.IsCell cb (some (.int bl t3))) (hcl : cenv.cells.lookup ("limit" : Str) = some cl) (hvl : s.heap.IsCell cl (some (.int lm t4)))
    (hg : s.heap.Ns cenv.globals mg) (ha : mg "abs" = none) (hb : s.heap.Ns cenv.builtins mb) (hma : mb "abs" = some (.builtin "abs"))
    (hd : CDivW bl d) (hx : CMulW n (bl / d)) :
    wpAny (model prog w) A (eval (.Compare (.Call (.Name "abs" p1) [.BinOp (.Subscript (.Name "one" p2) (.Constant (.int 0) k1 p3) p4) .Mult (.BinOp (.Name "below" p5) .FloorDiv (.Subscript (.Name "one" p6) (.Constant (.int 1) k2 p7) p8) p9) q1] [] q2) [.Lt] [.Name "limit" q3] q4) cenv)
      (fun y s3 => y = .bool (decide (absI (n * (bl / d)) < lm)) ∧ Keeps s s3) E s := by
  have hd0 : (0 : Int) < d := hd.1
  refine wpAny_Compare1 ?_ (by rfl)
  refine wpAny_Call_Name_kw (Calls.Name_function_global hk (show cenv.scope.names.lookup ("abs" : Str) = some .globalImplicit from h4) (Calls.loadGlobal_builtin hg ha hb hma ?_) (by decide))
  refine PyProof.Rows.callWith_builtin1 (Calls.spliced_cons (wpAny_BinOp (ld_item (i := 0) hk h1 hn hm hu rfl (by decide) fun tk => ?_))) (by rfl) (by rfl)
  refine wpAny_BinOp (wpAny_Name (wpAny_loadName_free hk (show cenv.scope.names.lookup ("below" : Str) = some .free from h2) hcb hvb ?_) (by decide))
  refine ld_item (i := 1) hk h1 hn hm hu rfl (by decide) fun tk2 => ?_
  refine floordiv_int (by omega) ?_ (.inl (PyProof.noPylong_of_log2 hd.2))
  rw [Int.fdiv_eq_ediv_of_nonneg bl (by omega)]
  refine mul_int ?_ hx.ok
  refine Calls.spliced_nil ?_
  refine call_abs_int fun u2 tk3 => ?_
  refine wpAny_Name (wpAny_loadName_free hk (show cenv.scope.names.lookup ("limit" : Str) = some .free from h3) hcl hvl ?_) (by decide)
  exact lt_int ⟨rfl, s.heap, _, rfl, fun _ _ e => e⟩
end
/-! ### the generator -/
def trQ (pb : Q2 → Bool) (l : List Q2) (j : Nat) : Bool := match l[j]? with
  | some q => pb q
  | none => false
theorem trQ_some {pb : Q2 → Bool} {l : List Q2} {j : Nat} {q : Q2} (h : l[j]? = some q) : trQ pb l j = pb q := by
  unfold trQ
  rw [h]
theorem all_trQ (l : List Q2) (pb : Q2 → Bool) : (List.range l.length).all (trQ pb l) = l.all pb := by
  rw [Bool.eq_iff_iff, List.all_eq_true, List.all_eq_true]
  constructor
  · intro h q hq
    obtain ⟨j, hj, e⟩ := List.getElem_of_mem hq
    have z := h j (List.mem_range.mpr hj)
    rw [trQ_some (List.getElem?_eq_getElem hj), e] at z
    exact z
  · intro h j hj
    have hj' := List.mem_range.mp hj
    rw [trQ_some (List.getElem?_eq_getElem hj')]
    exact h _ (List.getElem_mem hj')
/-- the scope of the generator expression: its own name, two captured ones -/
structure GScope (X : Cx) (scope : Scope) : Prop where
  gs : GxR.GenS X.env scope "one"
  below : scope.names.lookup ("below" : Str) = some .free
  limit : scope.names.lookup ("limit" : Str) = some .free
  abs : scope.names.lookup ("abs" : Str) = some .globalImplicit
  cb : (("below" : Str), NameKind.free) ∈ scope.names
  cl : (("limit" : Str), NameKind.free) ∈ scope.names
  kb : X.env.kindOf ("below" : Str) = some .cell
  kl : X.env.kindOf ("limit" : Str) = some .cell
/-- what the row and the captured names are -/
structure RowIs (K : PySem.W.Frag) (σ : L2.St) (H : Hp) (v : V) (as : List Addr) (fs : List Q2) (bl lm : Int) : Prop where
  row : ∃ yl, v = .ref yl ∧ SqL K H yl (as.map V.ref)
  frs : FrsAt H as fs
  b : σ[3]? = some (some (.int bl))
  l : σ[4]? = some (some (.int lm))
  ok : ∀ q ∈ fs, CDivW bl q.2 ∧ CMulW q.1 (bl / q.2)
section
variable {X : Cx} {pins : List (Addr × Obj)} {σ : L2.St} {H : Hp} {s : Shared}
def pbR (bl lm : Int) (q : Q2) : Bool := decide (absI (q.1 * (bl / q.2)) < lm)
def ReadyR (X : Cx) (pins : List (Addr × Obj)) (σ : L2.St) (H1 : Hp) (P : Addr) (fs : List Q2) (pb : Q2 → Bool) (g : Addr) (s5 : Shared) : Prop :=
  ∃ (fp wr : List Addr) (G : Array GenState → Array GenState → Prop) (F : Nat → Value → Prop) (St : Nat → Shared → Prop),
    WalksS X.prog X.w X.A.in1 g fp wr G fs.length F St ∧ St 0 s5 ∧ TruthOf X.prog X.w X.A.in1 F (trQ pb fs) ∧
    ∀ s', Moved wr G s5 s' → ∃ H2, GxR.Tabbed P H1 H2 ∧ Inv X pins σ H2 s'
abbrev eltR (k1 k2 : Nat) (p1 p2 p3 p4 p5 p6 p7 p8 p9 q1 q2 q3 q4 : Pos) : Expr := .Compare (.Call (.Name "abs" p1) [.BinOp (.Subscript (.Name "one" p2) (.Constant (.int 0) k1 p3) p4) .Mult (.BinOp (.Name "below" p5) .FloorDiv (.Subscript (.Name "one" p6) (.Constant (.int 1) k2 p7) p8) p9) q1] [] q2) [.Lt] [.Name "limit" q3] q4
theorem gen_row {c P : Addr} {iter : Expr} {k1 k2 : Nat} {p1 p2 p3 p4 p5 p6 p7 p8 p9 q1 q2 q3 q4 px gpos : Pos} {scope : Scope} {te : TE} {k : Nat} {Q' : Value → Shared → Prop} {R : List Q2 → Int → Int → Hp → Prop}
    (hr : Room k X.A) (TB : GxR.TabB X.base X.mg c P) (hcode : X.env.code = .ref c) (S : GScope X scope) (hi : PE X iter te) (hN3 : X.N[3]? = some ("below" : Str)) (hN4 : X.N[4]? = some ("limit" : Str)) (habs : X.mg "abs" = none)
    (hs : ∀ v, genFold iter X.env v = pure v) (I : Inv X pins σ H s) (h : te σ H fun v H1 => ∃ as fs bl lm, RowIs X.K σ H1 v as fs bl lm ∧ GxR.TabG H1 P ∧ R fs bl lm H1)
    (hQ : ∀ fs bl lm H1 g s5, R fs bl lm H1 → ReadyR X pins σ H1 P fs (pbR bl lm) g s5 → Q' (.ref g) s5) :
    wpAny (model X.prog X.w) X.A (eval (.GeneratorExp (eltR k1 k2 p1 p2 p3 p4 p5 p6 p7 p8 p9 q1 q2 q3 q4) [⟨.Name "one" px, iter, [], 0⟩] scope gpos) X.env) Q' X.xe s := by
  refine wpAny_GeneratorExp_walksQ hr.hd S.gs.co (closure_ok S.gs.free) S.gs.cell S.gs.dot S.gs.loc S.gs.kind (by have := hr.dp; omega) ?_ hs
  refine thn (hi.run pins s σ H _ I h) fun xv s1 ⟨v, H1, I1, r1, qR⟩ => ?_
  obtain ⟨as, fs, bl, lm, RI, ⟨ps, hP, ht⟩, qR⟩ := qR
  obtain ⟨yl, rfl, hyl⟩ := RI.row
  obtain rfl : xv = Value.ref yl := r1
  obtain ⟨its, rv, hl, hz⟩ := I1.list hyl
  have hIL := hl.isList
  have hflen : as.length = fs.length := RI.frs.len
  have hlen : its.length = fs.length := by rw [← rv.length, List.length_map, hflen]
  -- the pairs, as objects
  have hat : ∀ (i : Nat) (v : Value), its.toArray[i]? = some v → ∃ (q : Q2) (u : Addr) (a1 a2 : Tok), fs[i]? = some q ∧ v = .ref u ∧ IsTup s1.heap u #[.int q.1 a1, .int q.2 a2] := fun i v hv => by
    have hv2 : its[i]? = some v := by simpa using hv
    have hi2 : i < its.length := (List.getElem?_eq_some_iff.mp hv2).1
    obtain ⟨q, hq⟩ : ∃ q, fs[i]? = some q := ⟨fs[i]'(by omega), List.getElem?_eq_getElem _⟩
    obtain ⟨u, hu, hfr⟩ := RI.frs.get hq
    have hb : (as.map V.ref)[i]? = some (V.ref u) := by rw [List.getElem?_map, hu] <;> rfl
    obtain ⟨u2, hu2, ru⟩ := rv.get hb
    rw [hv2] at hu2
    cases hu2
    obtain rfl : v = Value.ref u := ru
    obtain ⟨_, tis, tv, tt⟩ := I1.hok u _ hfr
    cases tv with
    | cons r1 tv =>
    cases tv with
    | cons r2 tv =>
    cases tv
    obtain ⟨a1, rfl⟩ := r1
    obtain ⟨a2, rfl⟩ := r2
    exact ⟨q, u, a1, a2, hq, rfl, tt⟩
  -- the captured names' cells
  obtain ⟨mL, hnL, hlook⟩ := I1.loc
  have cell_of : ∀ {i : Nat} {x : Str} {z : Int}, X.N[i]? = some x → σ[i]? = some (some (.int z)) → X.env.kindOf x = some .cell → ∃ (cc : Addr) (tk : Tok), X.env.cells.lookup x = some cc ∧ s1.heap.IsCell cc (some (.int z tk)) := fun {i x z} e1 e2 e3 => by
    obtain ⟨u, ru, lk⟩ := hlook i x _ e1 e2 (.inr (.inl e3))
    obtain ⟨tk, rfl⟩ := ru
    rcases lk with ⟨z1, _⟩ | ⟨_, cc, z2, z3⟩
    · rw [e3] at z1
      cases z1
    · exact ⟨cc, tk, z2, z3⟩
  obtain ⟨cb, t3, hcb, hvb⟩ := cell_of hN3 RI.b S.kb
  obtain ⟨cl, t4, hcl, hvl⟩ := cell_of hN4 RI.l S.kl
  refine wpAny_pyIter_list hIL ?_
  generalize ho : ({ cls := .type "list_iterator", data := .fields #[.ref yl, .int 0 0] } : Obj) = o
  have hitr : (s1.heap.push o).IsListIter s1.heap.objs.size yl 0 := by
    subst ho
    exact ⟨_, Heap.get?_push_size _ rfl, rfl, rfl⟩
  have hylt : yl < s1.heap.objs.size := by
    obtain ⟨_, e, _⟩ := _root_.id hIL
    exact Heap.lt_size e
  have hPs : s1.heap.get? P = some { cls := .none, data := .fields ps } := I1.hok P _ hP
  have hPlt : P < s1.heap.objs.size := Heap.lt_size hPs
  have hP2 : (s1.heap.push o).get? P = some { cls := .none, data := .fields ps } := Heap.get?_push_of_some _ hPs
  have cd : PySem.W.CodeHd (s1.heap.push o) c P := TB.code.keeps fun b u e => Heap.get?_push_of_some _ (I1.bk b u e)
  have lim2 : (s1.heap.push o).NoLimit := I1.nolimit.push o
  have cont : ∀ (code : Value) (h3 : Heap) (tk : Nat) (ps' : Array Value), Heap.ExtBut P (s1.heap.push o) h3 → (s1.heap.push o).objs.size ≤ h3.objs.size → h3.get? P = some { cls := .none, data := .fields ps' } → (∃ more, ps' = ps ++ more) → TriplesOk ps'.toList →
      wpAny (model X.prog X.w) X.A (builtinsFor X.env.globals X.env.builtins) (fun bi s₄ =>
        ∃ Ia fp wr n₀ Pf St₀ pz F, Value.ref s1.heap.objs.size = .ref Ia ∧ (∀ A' : Around, A'.handled = none → Walks X.prog X.w A' Ia fp wr n₀ Pf St₀) ∧ St₀ 0 s₄.heap ∧ (∀ b ∈ fp, b < s₄.heap.objs.size) ∧ s₄.heap.NoLimit ∧ cStatics ∉ wr ∧
          (∀ href : Heap, (∀ b o, s₄.heap.get? b = some o → href.get? b = some o) →
            QuietGen X.prog X.w (genEnv scope (cloFrom X.env.cells scope.names []) s₄.heap.objs.size code bi X.env) "one" [] (eltR k1 k2 p1 p2 p3 p4 p5 p6 p7 p8 p9 q1 q2 q3 q4) (List.range s₄.heap.objs.size) wr Pf pz F href) ∧
          (∀ a h₅ tk gs, gs.bare = true → s₄.heap.objs.size < a → h₅.objs.size = a + 1 → (∀ b o, s₄.heap.get? b = some o → h₅.get? b = some o) →
            WalksS X.prog X.w X.A.in4 a (a :: s₄.heap.objs.size :: List.range s₄.heap.objs.size) (s₄.heap.objs.size :: wr) (GenOnlyQ s₄.gens.size) (passing pz n₀ 0).length
              (fun j y => ∃ i, (passing pz n₀ 0)[j]? = some i ∧ F i y) (GenAt X.prog X.w X.A.in4 a s₄.gens.size s₄.heap.objs.size (List.range s₄.heap.objs.size) wr pz n₀ F) →
            GenAt X.prog X.w X.A.in4 a s₄.gens.size s₄.heap.objs.size (List.range s₄.heap.objs.size) wr pz n₀ F 0 { s₄ with gens := s₄.gens.push gs, toks := tk, heap := h₅ } →
            Q' (.ref a) { s₄ with gens := s₄.gens.push gs, toks := tk, heap := h₅ })) X.xe { s1 with heap := h3, toks := tk } := by
    intro code h3 tk ps' hx hsz hP3 hmore ht3
    obtain ⟨bm, ob, e1, e2, e3, e4, e5, e6, e7, e8⟩ := TB.bm
    have hcP : cStatics ≠ P := fun e => by
      obtain ⟨_, hns, _⟩ := I1.nolimit
      obtain ⟨o', es, ep, ho, hd, _⟩ := hns
      rw [e, hPs] at ho
      cases ho
      cases hd
    have hcl9 : cStatics < s1.heap.objs.size := let ⟨_, hns, _⟩ := I1.nolimit; hns.lt
    have sz2 : (s1.heap.push o).objs.size = s1.heap.objs.size + 1 := Heap.size_push ..
    have keep3 : ∀ b u, b ≠ P → s1.heap.get? b = some u → h3.get? b = some u := fun b u hb e => hx b u hb (Heap.get?_push_of_some _ e)
    have hgl : h3.Ns X.env.globals X.mg := by rw [I1.ok.glob]; exact ((I1.mod.glob.keeps I1.bk).push o).extBut hx TB.gP
    refine wpAny_builtinsFor (m := X.mg) hgl e1 e2 (keep3 _ _ e4 (I1.bk _ _ e5)) e6 e7 e8 ?_
    have hylP : yl ≠ P := fun z => by
      obtain ⟨_, e, hc1, _, hd1⟩ := _root_.id hIL
      rw [z, hPs] at e
      cases e
      cases hd1
    have hIL3 : h3.IsList yl its.toArray := by
      obtain ⟨ob, e, r⟩ := _root_.id hIL
      exact ⟨ob, keep3 _ _ hylP e, r⟩
    have hItr3 : h3.IsListIter s1.heap.objs.size yl 0 := hitr.at fun u e => hx _ u (Nat.ne_of_gt hPlt) e
    obtain ⟨mb, hmb1, hmb2⟩ := I1.mod.blt
    have hbl : h3.Ns builtinsNs mb := by
      obtain ⟨ob2, es2, ep2, ho2, hd2, r2⟩ := hmb1.keeps I1.bk
      refine ⟨ob2, es2, ep2, keep3 _ _ (fun z => ?_) ho2, hd2, r2⟩
      rw [z, hPs] at ho2
      cases ho2
      cases hd2
    refine ⟨s1.heap.objs.size, [s1.heap.objs.size, yl], [s1.heap.objs.size], its.toArray.size, (fun i v => its.toArray[i]? = some v), (fun i h => h.IsListIter s1.heap.objs.size yl i ∧ h.IsList yl its.toArray), (fun _ => true),
      (fun i y => ∃ q, fs[i]? = some q ∧ y = .bool (pbR bl lm q)), rfl, (fun A' hA => Walks.list hA _ _ (Nat.ne_of_lt hylt) _), ⟨hItr3, hIL3⟩, ?_, lim2.extBut hx hcP, ?_, ?_, ?_⟩
    · intro b hb
      rcases List.mem_cons.mp hb with z | z
      · rw [z]
        show s1.heap.objs.size < h3.objs.size
        omega
      · rcases List.mem_cons.mp z with z | z
        · rw [z]
          have e9 : s1.heap.objs.size ≤ h3.objs.size := by omega
          exact Nat.lt_of_lt_of_le hylt e9
        · cases z
    · intro z
      rcases List.mem_cons.mp z with z | z
      · exact Nat.ne_of_lt hcl9 z
      · cases z
    · intro href hhref
      refine ⟨fun A' E' i v s2 m2 hA hPv hn hm hk => ?_, fun A' E' i v s2 m2 hA hPv hp hn hm hk => ?_⟩
      · simp only [List.forIn_nil]
        exact wpAny_pure ⟨rfl, GxR.keeps_refl _⟩
      · obtain ⟨q, u, a1, a2, hq, rfl, hu⟩ := hat i v hPv
        -- what stood at s1 stands at s2
        have keep4 : ∀ (b : Addr) (u : Obj), b ≠ P → s1.heap.get? b = some u → s2.heap.get? b = some u := fun b u hb e => by
          have e3 := keep3 b u hb e
          refine hk b (List.mem_range.mpr (Heap.lt_size e3)) (fun z => ?_) u (hhref b u e3)
          rcases List.mem_cons.mp z with z | z
          · rw [z] at e
            exact Nat.lt_irrefl _ (Heap.lt_size e)
          · cases z
        have keep5 : ∀ (b : Addr) (u : Obj), h3.get? b = some u → b < s1.heap.objs.size → s2.heap.get? b = some u := fun b u e hb => by
          refine hk b (List.mem_range.mpr (Heap.lt_size e)) (fun z => ?_) u (hhref b u e)
          rcases List.mem_cons.mp z with z | z
          · rw [z] at hb
            exact Nat.lt_irrefl _ hb
          · cases z
        have hu2 : IsTup s2.heap u #[.int q.1 a1, .int q.2 a2] := by
          obtain ⟨oq, g1, g2, nq, g3⟩ := hu
          refine ⟨oq, keep4 _ _ (fun z => ?_) g1, g2, nq, g3⟩
          rw [z, hPs] at g1
          cases g1
          cases g3
        have cell2 : ∀ {cc : Addr} {v : Option Value}, s1.heap.IsCell cc v → s2.heap.IsCell cc v := fun {cc v} hc => by
          obtain ⟨oq, g1, g2⟩ := hc
          refine ⟨oq, keep4 _ _ (fun z => ?_) g1, g2⟩
          rw [z, hPs] at g1
          cases g1
          cases g2
        have nsI : ∀ {a : Addr} {mm : Str → Option Value}, h3.Ns a mm → a < s1.heap.objs.size → s2.heap.Ns a mm := fun {a mm} hn ha => by
          obtain ⟨oq, es, ep, g1, g2⟩ := hn
          exact ⟨oq, es, ep, keep5 _ _ g1 ha, g2⟩
        have gl1 : X.env.globals < s1.heap.objs.size := by
          have z := (I1.mod.glob.keeps I1.bk).lt
          rw [I1.ok.glob]
          exact z
        have bl1 : builtinsNs < s1.heap.objs.size := (hmb1.keeps I1.bk).lt
        have nP : ∀ {x : Str} {cc : Addr}, (x, NameKind.free) ∈ scope.names → X.env.cells.lookup x = some cc → (cloFrom X.env.cells scope.names []).lookup x = some cc := fun {x cc} hx9 hc9 => by
          have m1 := cloFrom_has (cells := X.env.cells) (acc := []) hx9
          rw [hc9] at m1
          obtain ⟨c2, l2⟩ := mem_lookup m1
          rcases cloFrom_mem (PySem.mem_of_lookup l2) with z | ⟨_, z⟩
          · cases z
          · rw [hc9] at z
            rw [l2, z]
            rfl
        have hok := RI.ok q (List.mem_of_getElem? hq)
        refine wpAny_mono (elt_run (mg := X.mg) (mb := mb) S.gs.kind S.gs.loc S.below S.limit S.abs hn hm hu2 (nP S.cb hcb) (cell2 hvb) (nP S.cl hcl) (cell2 hvl) (nsI hgl gl1) habs (nsI hbl bl1) ((hmb2 _ (by decide +kernel)).trans (by decide +kernel)) hok.1 hok.2) (fun y s3 r => ?_) fun _ _ e => e
        exact ⟨⟨q, hq, r.1⟩, r.2⟩
    · intro g h5 tk5 gs hgb hag hsz5 hk5 W5 hgat
      simp only [GxR.passing_true, List.length_range] at W5
      have hn5 : its.toArray.size = fs.length := by rw [List.size_toArray, hlen]
      rw [hn5] at W5 hgat
      refine hQ fs bl lm H1 g _ qR ⟨_, _, _, _, _, W5.in4_1, hgat, ?_, fun s' hm => ?_⟩
      · intro j y sj Qj Ej hy hQj
        obtain ⟨i, hij, q, hq, rfl⟩ := hy
        obtain ⟨hj, ej⟩ := List.getElem?_eq_some_iff.mp hij
        rw [List.getElem_range] at ej
        subst ej
        have hQ2 : Qj (trQ (pbR bl lm) fs j) sj := hQj
        rw [trQ_some hq] at hQ2
        exact wpAny_truthy_bool hQ2
      · obtain ⟨more, em⟩ := hmore
        have nwr : ∀ b u, s1.heap.get? b = some u → b ∉ h3.objs.size :: [s1.heap.objs.size] := fun b u e hb => by
          have hl := Heap.lt_size e
          rcases List.mem_cons.mp hb with z | z
          · rw [z] at hl
            have h9 : (h3.objs.size : Nat) < s1.heap.objs.size := hl
            omega
          · rcases List.mem_cons.mp z with z | z
            · rw [z] at hl
              exact Nat.lt_irrefl _ hl
            · cases z
        have J := GxR.inv_tab (more := more) (h' := s'.heap) (g' := s'.gens) (d' := s'.drawn) (t' := s'.toks) I1 hP (fun b u hb e => hm.heap b u (nwr b u e) (hk5 b u (keep3 b u hb e)))
          (by rw [← em]; exact hm.heap P _ (nwr P _ hPs) (hk5 P _ hP3)) (AllBare.movedS (I1.bare.push hgb) hm)
        rw [GxR.sh_eta s1 s' hm.os] at J
        refine ⟨upd H1 P (.tbl (ps ++ more)), ⟨⟨ps ++ more, upd_same, by rw [← em]; exact ht3⟩, fun b hb => upd_ne hb⟩, J⟩
  refine ⟨lim2, ?_⟩
  cases hf : codeAmong gpos ps.toList with
  | none =>
    refine wpAny_genexprCodeX hcode (cd.code hP2 ht) (cd.tab hP2) hf fun c' h' tk hx hge hlt hco' _ htab' _ => ?_
    obtain ⟨o1, vs, f1, tf, fl, tg, inF, tx, tt, op, _, _, _, _, _, _, _, _, _, htr, _⟩ := hco'
    exact cont _ h' tk _ hx (Nat.le_trans hge (Nat.le_of_lt hlt)) htab'.2 ⟨_, rfl⟩ htr
  | some cv =>
    refine wpAny_genexprCode_hit hcode (cd.code hP2 ht) hf ?_
    exact cont cv (s1.heap.push o) s1.toks ps (Heap.ExtBut.refl _ _) (Nat.le_refl _) hP2 ⟨#[], by simp⟩ ht
/-- all(abs(one[0] * (below // one[1])) < limit for one in row); behind it the def's table may have grown -/
def tAllR (K : PySem.W.Frag) (P : Addr) (te : TE) : TE := fun σ H Q => te σ H fun v H1 => ∃ as fs bl lm, RowIs K σ H1 v as fs bl lm ∧ GxR.TabG H1 P ∧ ∀ H2, GxR.Tabbed P H1 H2 → Q (.bl (fs.all (pbR bl lm))) H2
theorem pe_allR {c P : Addr} {iter : Expr} {k1 k2 : Nat} {p1 p2 p3 p4 p5 p6 p7 p8 p9 q1 q2 q3 q4 px p pos gpos : Pos} {scope : Scope} {te : TE} {k : Nat}
    (hr : Room k X.A) (hg : Gl X "all") (hm : X.mg "all" = none) (hb : bootBuiltins "all" = some (.builtin "all")) (TB : GxR.TabB X.base X.mg c P) (hcode : X.env.code = .ref c) (S : GScope X scope) (hi : PE X iter te)
    (hN3 : X.N[3]? = some ("below" : Str)) (hN4 : X.N[4]? = some ("limit" : Str)) (habs : X.mg "abs" = none) (hs : ∀ v, genFold iter X.env v = pure v)
    (he : starEach [.GeneratorExp (eltR k1 k2 p1 p2 p3 p4 p5 p6 p7 p8 p9 q1 q2 q3 q4) [⟨.Name "one" px, iter, [], 0⟩] scope gpos] X.env = (false, eval (.GeneratorExp (eltR k1 k2 p1 p2 p3 p4 p5 p6 p7 p8 p9 q1 q2 q3 q4) [⟨.Name "one" px, iter, [], 0⟩] scope gpos) X.env) :: starEach [] X.env := by rfl) :
    PE X (.Call (.Name "all" p) [.GeneratorExp (eltR k1 k2 p1 p2 p3 p4 p5 p6 p7 p8 p9 q1 q2 q3 q4) [⟨.Name "one" px, iter, [], 0⟩] scope gpos] [] pos) (tAllR X.K P te) := by
  refine ⟨fun pins s σ H Q I h => ?_⟩
  refine wpAny_Call_Name_kw (ld_blt I hg hm hb ?_)
  refine PyProof.Rows.callWith_builtin1 ?_ he (by rfl)
  rw [he]
  refine Calls.spliced_cons (gen_row (R := fun fs bl lm H1 => ∀ H2, GxR.Tabbed P H1 H2 → Q (.bl (fs.all (pbR bl lm))) H2) hr TB hcode S hi hN3 hN4 habs hs I h fun fs bl lm H1 g s5 hR hG => ?_)
  obtain ⟨fp, wr, G, F, St, W, hst, htr, hI⟩ := hG
  refine Calls.spliced_nil ?_
  refine call_all_walkS (W.self 0 _ _ _ hst ⟨g, fp, wr, G, _, F, St, _, rfl, W, hst, htr, fun s' hmv => ?_⟩)
  obtain ⟨H2, hT, J⟩ := hI s' hmv
  refine ⟨.bl _, H2, J, rfl, ?_⟩
  rw [all_trQ fs (pbR bl lm)]
  exact hR H2 hT
end
end Tp
/-! The program's small defs: fractions. -/
namespace Tp
open PySem PySem.Spec PyProof.Rows L2
theorem IsFr.mono {H H' : Hp} (s : Same H H') {a : Addr} {q : Q2} (h : IsFr H a q) : IsFr H' a q := s _ _ h
abbrev sCommon : Stmt := topS 7
abbrev sFraction : Stmt := topS 8
abbrev sPlus : Stmt := topS 9
abbrev sTimes : Stmt := topS 10
abbrev sNegative : Stmt := topS 11
theorem same_new {H : Hp} {p : Addr} {o : HO} (h : H p = none) : Same H (upd H p o) := fun b x e => by
  rw [upd_ne (ne_of_none e h)]
  exact e
theorem iteFF {c : Prop} [Decidable c] {A B : Prop} (hc : ¬ c) (h : B) : if decide c = true then A else B := by
  rw [decide_eq_false hc, if_neg Bool.false_ne_true]
  exact h
theorem iteTT {c : Prop} [Decidable c] {A B : Prop} (hc : c) (h : A) : if decide c = true then A else B := by
  rw [decide_eq_true hc, if_pos rfl]
  exact h
/-! ### promises -/
def spCommon : Sp := fun vs H Q _ => ∃ i j : Int, vs = [.int i, .int j] ∧ Q (.int (Int.gcd i j : Int)) H
def spFraction : Sp := fun vs H Q _ => ∃ n d : Int, vs = [.int n, .int d] ∧ 0 < d ∧ d.natAbs < 2 ^ 8000 ∧ ∀ H' p, Same H H' → IsFr H' p (fr n d) → Q (.ref p) H'
def spPlus : Sp := fun vs H Q _ => ∃ (a b : Addr) (p q : Q2), vs = [.ref a, .ref b] ∧ IsFr H a p ∧ IsFr H b q ∧ Sz 3000 p ∧ Sz 3000 q ∧ ∀ H' r, Same H H' → IsFr H' r (plusQ p q) → Q (.ref r) H'
def spTimes : Sp := fun vs H Q _ => ∃ (a b : Addr) (p q : Q2), vs = [.ref a, .ref b] ∧ IsFr H a p ∧ IsFr H b q ∧ Sz 3000 p ∧ Sz 3000 q ∧ ∀ H' r, Same H H' → IsFr H' r (timesQ p q) → Q (.ref r) H'
def spNegative : Sp := fun vs H Q _ => ∃ (a : Addr) (p : Q2), vs = [.ref a] ∧ IsFr H a p ∧ ∀ H' r, Same H H' → IsFr H' r (negQ p) → Q (.ref r) H'
section
variable {P : Program} {w : World} {K : PySem.W.Frag} {mg : Str → Option Value} {base : Heap}
theorem scCommon : FnScope ["a", "b"] ["a", "b"] (defScope sCommon) := ⟨rfl, rfl, rfl, by decide +kernel, rfl, by decide +kernel, by decide +kernel⟩
theorem fmod_nat (a b : Nat) : Int.fmod (a : Int) (b : Int) = ((a % b : Nat) : Int) := (Int.ofNat_fmod a b).symm
theorem fdiv_nat (a b : Nat) : Int.fdiv (a : Int) (b : Int) = ((a / b : Nat) : Int) := (Int.ofNat_fdiv a b).symm
theorem ok_common {f : Addr} {fd : FuncData} (F : Fun K "common" "common" sCommon f fd) (ma : mg "abs" = none) : FnOk P w K mg base CX0 1 f fd ["a", "b"] spCommon := by
  refine F.ok scCommon (fun vs H Q E h => ?_) (fun cdv A outer s H vs Q E hr h => ?_)
  · obtain ⟨i, j, rfl, _⟩ := h
    rfl
  · obtain ⟨i, j, rfl, k⟩ := h
    refine ⟨_, pss_cons (ps_set (i := 0) scCommon.nd rfl (.inl rfl) (pe_callB call_abs (by rfl) ma (by decide +kernel) (pa_cons (pv 0) pa_nil)))
      (pss_cons (ps_set (i := 1) scCommon.nd rfl (.inl rfl) (pe_callB call_abs (by rfl) ma (by decide +kernel) (pa_cons (pv 1) pa_nil)))
      (pss_cons (ps_while PassesOwn.never (pt_cmpR op_gt (pv 1) pe_int (nomark _))
        (pss_one (ps_par (i := 0) (j := 1) (by rfl) scCommon.nd rfl rfl (by decide) rfl rfl (pa_cons (pv 1) (pa_cons (pe_op op_modN (pv 0) (pv 1)) pa_nil)) (by rfl))))
      (pss_one (ps_ret (pv 0))))), ?_⟩
    refine ⟨_, rfl, _, rfl, _, rfl, _, rfl, ?_⟩
    rw [abs_eq, abs_eq]
    refine ⟨fun m σ H' => ∃ a b : Nat, σ = [some (.int a), some (.int b)] ∧ H' = H ∧ m = b ∧ Nat.gcd a b = Int.gcd i j, ⟨_, _, _, rfl, rfl, rfl, rfl⟩, ?_⟩
    rintro m σ H' ⟨a, b, rfl, rfl, rfl, hg⟩
    refine ⟨_, rfl, _, _, rfl, rfl, _, rfl, ?_⟩
    refine ite2 (fun c => ?_) (fun c => ?_)
    · have hb : (0 : Int) < (m : Int) := of_decide_eq_true c
      refine ⟨fun σ' H1 => σ' = [some (.int m), some (.int ((a % m : Nat) : Int))] ∧ H1 = H', fun σ' H1 e => ⟨a % m, Nat.mod_lt a (by omega), m, a % m, e.1, e.2, rfl, by rw [gcd_step]; exact hg⟩, ?_⟩
      refine ⟨_, rfl, _, rfl, _, rfl, _, _, rfl, rfl, (by omega), _, _, rfl, ?_⟩
      refine ⟨?_, rfl⟩
      show [some (V.int (m : Int)), some (V.int (Int.fmod (a : Int) (m : Int)))] = _
      rw [fmod_nat]
    · have hb : ¬ (0 : Int) < (m : Int) := fun z => c (decide_eq_true z)
      have h0 : m = 0 := by omega
      subst h0
      refine ⟨_, rfl, ?_⟩
      rw [Nat.gcd_zero_right] at hg
      rw [hg]
      exact k
theorem scFraction : FnScope ["number", "divisor", "shared"] ["number", "divisor"] (defScope sFraction) := ⟨rfl, rfl, rfl, by decide +kernel, rfl, by decide +kernel, by decide +kernel⟩
abbrev FunF (K : PySem.W.Frag) (f : Addr) (fd : FuncData) : Prop := FunD K "fraction" "fraction" (defArgs sFraction) (defBody sFraction) (defScope sFraction) [.int 1] [] f fd
/-- a def that may be called: where it stands, how it binds, what it promises -/
structure CallF (K : PySem.W.Frag) (mg : Str → Option Value) (x : Str) (f : Addr) (fd : FuncData) (ps : List Str) : Prop where
  gl : mg x = some (.ref f)
  kp : PySem.W.keepIn K (.ref f) = true
  bd : Binds K fd ps []
theorem ok_fraction {f fc : Addr} {fd fdc : FuncData} (F : FunF K f fd) (FC : Fun K "common" "common" sCommon fc fdc) (ma : mg "abs" = none) (cC : CallF K mg "common" fc fdc ["a", "b"]) : FnOk P w K mg base CX0 2 f fd ["number", "divisor"] spFraction := by
  have GC : FnOk P w K mg base CX0 1 fc fdc ["a", "b"] spCommon := ok_common FC ma
  refine F.ok scFraction (fun vs H Q E h => ?_) (fun cdv A outer s H vs Q E hr h => ?_)
  · obtain ⟨n, d, rfl, _⟩ := h
    rfl
  · obtain ⟨n, d, rfl, hd, hz, k⟩ := h
    refine ⟨_, (pss_cons (ps_if (pt_cmpR op_eq (pv 1) pe_int (nomark _)) pss_never pss_nil)
      (pss_cons (ps_set (i := 2) scFraction.nd rfl (.inl rfl) (pe_call GC hr (by rfl) cC.gl cC.kp cC.bd .nil pass0 (pa_cons (pv 0) (pa_cons (pv 1) pa_nil))))
      (pss_cons (ps_if (pt_cmpR op_lt (pv 1) pe_int (nomark _)) (pss_one (ps_set (i := 2) scFraction.nd rfl (.inl rfl) (pe_un un_neg (pv 2)))) pss_nil)
      (pss_one (ps_ret (pe_tup (pa_cons (pe_op op_fdivW (pv 0) (pv 2)) (pa_cons (pe_op op_fdivW (pv 1) (pv 2)) pa_nil)))))))), ?_⟩
    have d0 : ¬ d = 0 := by
      clear hz
      omega
    have d1 : ¬ d < 0 := by
      clear hz
      omega
    refine ⟨_, rfl, rfl, _, rfl, ?_⟩
    refine iteFF (fun z => d0 (V.int.inj z)) ?_
    refine ⟨_, rfl, _, rfl, n, d, rfl, ?_⟩
    refine ⟨_, rfl, _, _, rfl, rfl, _, rfl, ?_⟩
    refine iteFF d1 ?_
    have hg : (0 : Int) < (Int.gcd n d : Int) := by have := gcd_pos (n := n) hd; omega
    have hl : CDivW n (Int.gcd n d : Int) := wide_div hg (wide_le (by omega) (gcd_le (n := n) hd) hz) (by decide) (by decide)
    refine ⟨_, rfl, _, rfl, _, _, rfl, rfl, hl, _, rfl, _, rfl, _, _, rfl, rfl, ⟨hl.1, hl.2⟩, (by show 2 ≤ sizeLine; decide), fun p hp => ?_⟩
    exact k _ p (same_new hp) upd_same
theorem scPlus : FnScope ["a", "b"] ["a", "b"] (defScope sPlus) := ⟨rfl, rfl, rfl, by decide +kernel, rfl, by decide +kernel, by decide +kernel⟩
theorem scTimes : FnScope ["a", "b"] ["a", "b"] (defScope sTimes) := ⟨rfl, rfl, rfl, by decide +kernel, rfl, by decide +kernel, by decide +kernel⟩
theorem scNegative : FnScope ["a"] ["a"] (defScope sNegative) := ⟨rfl, rfl, rfl, by decide +kernel, rfl, by decide +kernel, by decide +kernel⟩
theorem fr_at0 {q : Q2} : atI [V.int q.1, V.int q.2] 0 = some (.int q.1) := atI_nat (xs := [V.int q.1, V.int q.2]) (j := 0) rfl
theorem fr_at1 {q : Q2} : atI [V.int q.1, V.int q.2] 1 = some (.int q.2) := atI_nat (xs := [V.int q.1, V.int q.2]) (j := 1) rfl
theorem wide3 {i j : Int} {B : Nat} (ha : i.natAbs < 2 ^ B) (hb : j.natAbs < 2 ^ B) (h0 : 0 < B) (h : B ≤ 400000) : CMulW i j := wide_mul ha hb h0 h0 (by omega)
theorem ok_plus {f ff : Addr} {fd fdf : FuncData} (F : Fun K "plus" "plus" sPlus f fd) (GF : FnOk P w K mg base CX0 2 ff fdf ["number", "divisor"] spFraction) (cF : CallF K mg "fraction" ff fdf ["number", "divisor"]) : FnOk P w K mg base CX0 3 f fd ["a", "b"] spPlus := by
  refine F.ok scPlus (fun vs H Q E h => ?_) (fun cdv A outer s H vs Q E hr h => ?_)
  · obtain ⟨a, b, p, q, rfl, _⟩ := h
    rfl
  · obtain ⟨a, b, p, q, rfl, ha, hb, sp, sq, k⟩ := h
    refine ⟨_, pss_one (ps_ret (pe_call GF hr (by rfl) cF.gl cF.kp cF.bd .nil pass0 (pa_cons (pe_op op_add (pe_op op_mulW (pe_ix ix_tup (pv 0) pe_int (fun _ _ => rfl)) (pe_ix ix_tup (pv 1) pe_int (fun _ _ => rfl)))
      (pe_op op_mulW (pe_ix ix_tup (pv 1) pe_int (fun _ _ => rfl)) (pe_ix ix_tup (pv 0) pe_int (fun _ _ => rfl)))) (pa_cons (pe_op op_mulW (pe_ix ix_tup (pv 0) pe_int (fun _ _ => rfl)) (pe_ix ix_tup (pv 1) pe_int (fun _ _ => rfl))) pa_nil)))), ?_⟩
    refine ⟨_, rfl, a, _, _, _, rfl, rfl, .inl (.inl ha), fr_at0, _, rfl, b, _, _, _, rfl, rfl, .inl (.inl hb), fr_at1, _, _, rfl, rfl, wide3 sp.n sq.d (by decide) (by decide), ?_⟩
    refine ⟨_, rfl, b, _, _, _, rfl, rfl, .inl (.inl hb), fr_at0, _, rfl, a, _, _, _, rfl, rfl, .inl (.inl ha), fr_at1, _, _, rfl, rfl, wide3 sq.n sp.d (by decide) (by decide), _, _, rfl, rfl, ?_⟩
    refine ⟨_, rfl, a, _, _, _, rfl, rfl, .inl (.inl ha), fr_at1, _, rfl, b, _, _, _, rfl, rfl, .inl (.inl hb), fr_at1, _, _, rfl, rfl, wide3 sp.d sq.d (by decide) (by decide), ?_⟩
    exact ⟨_, _, rfl, Int.mul_pos sp.p sq.p, Nat.lt_of_lt_of_le (plus_den sp sq) (Nat.pow_le_pow_right (by decide) (by decide)), k⟩
theorem ok_times {f ff : Addr} {fd fdf : FuncData} (F : Fun K "times" "times" sTimes f fd) (GF : FnOk P w K mg base CX0 2 ff fdf ["number", "divisor"] spFraction) (cF : CallF K mg "fraction" ff fdf ["number", "divisor"]) : FnOk P w K mg base CX0 3 f fd ["a", "b"] spTimes := by
  refine F.ok scTimes (fun vs H Q E h => ?_) (fun cdv A outer s H vs Q E hr h => ?_)
  · obtain ⟨a, b, p, q, rfl, _⟩ := h
    rfl
  · obtain ⟨a, b, p, q, rfl, ha, hb, sp, sq, k⟩ := h
    refine ⟨_, pss_one (ps_ret (pe_call GF hr (by rfl) cF.gl cF.kp cF.bd .nil pass0 (pa_cons (pe_op op_mulW (pe_ix ix_tup (pv 0) pe_int (fun _ _ => rfl)) (pe_ix ix_tup (pv 1) pe_int (fun _ _ => rfl)))
      (pa_cons (pe_op op_mulW (pe_ix ix_tup (pv 0) pe_int (fun _ _ => rfl)) (pe_ix ix_tup (pv 1) pe_int (fun _ _ => rfl))) pa_nil)))), ?_⟩
    refine ⟨_, rfl, a, _, _, _, rfl, rfl, .inl (.inl ha), fr_at0, _, rfl, b, _, _, _, rfl, rfl, .inl (.inl hb), fr_at0, _, _, rfl, rfl, wide3 sp.n sq.n (by decide) (by decide), ?_⟩
    refine ⟨_, rfl, a, _, _, _, rfl, rfl, .inl (.inl ha), fr_at1, _, rfl, b, _, _, _, rfl, rfl, .inl (.inl hb), fr_at1, _, _, rfl, rfl, wide3 sp.d sq.d (by decide) (by decide), ?_⟩
    exact ⟨_, _, rfl, Int.mul_pos sp.p sq.p, Nat.lt_of_lt_of_le (plus_den sp sq) (Nat.pow_le_pow_right (by decide) (by decide)), k⟩
theorem ok_negative {f : Addr} {fd : FuncData} (F : Fun K "negative" "negative" sNegative f fd) : FnOk P w K mg base CX0 1 f fd ["a"] spNegative := by
  refine F.ok scNegative (fun vs H Q E h => ?_) (fun cdv A outer s H vs Q E hr h => ?_)
  · obtain ⟨a, p, rfl, _⟩ := h
    rfl
  · obtain ⟨a, p, rfl, ha, k⟩ := h
    refine ⟨_, pss_one (ps_ret (pe_tup (pa_cons (pe_un un_neg (pe_ix ix_tup (pv 0) pe_int (fun _ _ => rfl))) (pa_cons (pe_ix ix_tup (pv 0) pe_int (fun _ _ => rfl)) pa_nil)))), ?_⟩
    refine ⟨_, rfl, a, _, _, _, rfl, rfl, .inl (.inl ha), fr_at0, _, rfl, _, rfl, a, _, _, _, rfl, rfl, .inl (.inl ha), fr_at1, (by show 2 ≤ sizeLine; decide), fun r hr9 => ?_⟩
    exact k _ r (same_new hr9) upd_same
end
end Tp
/-! The defs that count signs. -/
namespace Tp
open PySem PySem.Spec PyProof.Rows L2
abbrev sCountD : Stmt := topS 12
abbrev sCountN : Stmt := topS 21
abbrev sSkip : Stmt := topS 22
def strD : Str := "0123456789"
def strL : Str := "abcdefghijklmnopqrstuvwxyzABCDEFGHIJKLMNOPQRSTUVWXYZ"
theorem strD_codes : strD.cps.toList = digL := by decide +kernel
theorem strL_codes : strL.cps.toList = letL := by decide +kernel
def spCountD : Sp := fun vs H Q _ => ∃ (z : Str) (i : Nat), vs = [.str z, .int (i : Int)] ∧ z.length ≤ 100000 ∧ i ≤ 100000 ∧ Q (.int (run isD z.cps.toList i : Nat)) H
def spCountN : Sp := fun vs H Q _ => ∃ (z : Str) (i : Nat), vs = [.str z, .int (i : Int)] ∧ z.length ≤ 100000 ∧ i ≤ 100000 ∧ Q (.int (run isN z.cps.toList i : Nat)) H
def spSkip : Sp := fun vs H Q _ => ∃ (z : Str) (i : Nat), vs = [.str z, .int (i : Int)] ∧ z.length ≤ 100000 ∧ i ≤ 100000 ∧ Q (.int ((i + run isB z.cps.toList i : Nat) : Int)) H
theorem len_list (z : Str) : z.cps.toList.length = z.length := Array.length_toList
theorem at_list {z : Str} {i c : Nat} : z.cps[i]? = some c ↔ z.cps.toList[i]? = some c := by rw [Array.getElem?_toList]
theorem in_list {z : Str} {i : Nat} (h : i < z.length) : ∃ c, z.cps.toList[i]? = some c := ⟨_, List.getElem?_eq_getElem (show i < z.cps.toList.length by rw [len_list]; exact h)⟩
theorem small_line {n : Nat} (h : n ≤ 100000) : n ≤ sizeLine := Nat.le_trans h (by decide)
section
variable {P : Program} {w : World} {K : PySem.W.Frag} {mg : Str → Option Value} {base : Heap}
theorem scCountD : FnScope ["text", "start", "at"] ["text", "start"] (defScope sCountD) := ⟨rfl, rfl, rfl, by decide +kernel, rfl, by decide +kernel, by decide +kernel⟩
theorem ok_countD {f : Addr} {fd : FuncData} {tk : Tok} (F : Fun K "count_digits" "count_digits" sCountD f fd) (ml : mg "len" = none) (mD : mg "DIGITS" = some (.str strD tk)) : FnOk P w K mg base CX0 1 f fd ["text", "start"] spCountD := by
  refine F.ok scCountD (fun vs H Q E h => ?_) (fun cdv A outer s H vs Q E hr h => ?_)
  · obtain ⟨z, i, rfl, _⟩ := h
    rfl
  · obtain ⟨z, i, rfl, hz, hi, k⟩ := h
    refine ⟨_, pss_cons (ps_set (i := 2) scCountD.nd rfl (.inl rfl) (pv 1))
      (pss_cons (ps_while PassesOwn.never (PW.pt (pw_and (pt_cmpR op_lt (pv 2) (pe_callB call_len_str (by rfl) ml PySem.boot_len (pa_cons (pv 0) pa_nil)) (nomark _))
          (pw_and1 (pt_cmpR op_in_sign (pe_item_str (pv 0) (pv 2) (fun _ _ => rfl)) (pe_glob (v := .str strD) rfl mD ⟨_, rfl⟩) (by rfl)))))
        (pss_one (ps_set (i := 2) scCountD.nd rfl (.inl rfl) (pe_op op_add (pv 2) pe_int))))
      (pss_one (ps_ret (pe_op op_sub (pv 2) (pv 1))))), ?_⟩
    refine ⟨_, rfl, ?_⟩
    refine ⟨fun m σ H' => ∃ a : Nat, σ = [some (.str z), some (.int (i : Int)), some (.int (a : Int))] ∧ H' = H ∧ i ≤ a ∧ a ≤ 100000 ∧ m = 100000 - a ∧ run isD z.cps.toList i = (a - i) + run isD z.cps.toList a,
      ⟨_, i, rfl, rfl, Nat.le_refl _, hi, rfl, by omega⟩, ?_⟩
    rintro m σ H' ⟨a, rfl, rfl, ha, ha2, rfl, hrun⟩
    refine ⟨_, rfl, _, rfl, z, rfl, small_line hz, _, _, rfl, rfl, _, rfl, ?_⟩
    by_cases hlt : a < z.length
    · obtain ⟨c, hc⟩ := in_list hlt
      refine iteTT (by omega) ?_
      refine ⟨_, rfl, _, rfl, z, (a : Int), c, rfl, rfl, by omega, by omega, by omega, by rw [Int.toNat_natCast, at_list]; exact hc, ?_⟩
      refine ⟨c, strD, rfl, rfl, _, rfl, ?_⟩
      rw [strD_codes]
      by_cases hp : isD c = true
      · refine iteTT (of_decide_eq_true hp) ?_
        refine ⟨fun σ' H1 => σ' = [some (.str z), some (.int (i : Int)), some (.int ((a + 1 : Nat) : Int))] ∧ H1 = H', fun σ' H1 e => ⟨100000 - (a + 1), by omega, a + 1, e.1, e.2, by omega, by omega, rfl, by rw [hrun, run_some hc hp]; omega⟩, ?_⟩
        exact ⟨_, rfl, _, _, rfl, rfl, rfl, rfl⟩
      · have hp' : isD c = false := by simpa using hp
        refine iteFF (of_decide_eq_false hp') ?_
        rw [run_no hc hp'] at hrun
        refine ⟨_, rfl, _, rfl, _, _, rfl, rfl, ?_⟩
        have e : (a : Int) - (i : Int) = (run isD z.cps.toList i : Int) := by omega
        show Q (.int ((a : Int) - (i : Int))) H'
        rw [e]
        exact k
    · refine iteFF (by omega) ?_
      rw [run_out (show z.cps.toList.length ≤ a by rw [len_list]; omega)] at hrun
      refine ⟨_, rfl, _, rfl, _, _, rfl, rfl, ?_⟩
      have e : (a : Int) - (i : Int) = (run isD z.cps.toList i : Int) := by omega
      show Q (.int ((a : Int) - (i : Int))) H'
      rw [e]
      exact k
theorem chr_iff {c k : Nat} {a : Str} (h : a = ⟨#[k]⟩) : (V.str ⟨#[c]⟩ = V.str a) ↔ c = k := by
  subst h
  constructor
  · intro e
    have e1 : (⟨#[c]⟩ : Str) = ⟨#[k]⟩ := V.str.inj e
    have e2 : #[c] = #[k] := congrArg Str.cps e1
    simpa using e2
  · intro e
    rw [e]
theorem blank_is : (" " : Str) = ⟨#[32]⟩ := by decide +kernel
theorem under_is : ("_" : Str) = ⟨#[95]⟩ := by decide +kernel
theorem scSkip : FnScope ["text", "start", "at"] ["text", "start"] (defScope sSkip) := ⟨rfl, rfl, rfl, by decide +kernel, rfl, by decide +kernel, by decide +kernel⟩
theorem ok_skip {f : Addr} {fd : FuncData} (F : Fun K "skip_blanks" "skip_blanks" sSkip f fd) (ml : mg "len" = none) : FnOk P w K mg base CX0 1 f fd ["text", "start"] spSkip := by
  refine F.ok scSkip (fun vs H Q E h => ?_) (fun cdv A outer s H vs Q E hr h => ?_)
  · obtain ⟨z, i, rfl, _⟩ := h
    rfl
  · obtain ⟨z, i, rfl, hz, hi, k⟩ := h
    refine ⟨_, pss_cons (ps_set (i := 2) scSkip.nd rfl (.inl rfl) (pv 1))
      (pss_cons (ps_while PassesOwn.never (PW.pt (pw_and (pt_cmpR op_lt (pv 2) (pe_callB call_len_str (by rfl) ml PySem.boot_len (pa_cons (pv 0) pa_nil)) (nomark _))
          (pw_and1 (pt_cmpR op_eq (pe_item_str (pv 0) (pv 2) (fun _ _ => rfl)) pe_str (nomark _)))))
        (pss_one (ps_set (i := 2) scSkip.nd rfl (.inl rfl) (pe_op op_add (pv 2) pe_int))))
      (pss_one (ps_ret (pv 2)))), ?_⟩
    refine ⟨_, rfl, ?_⟩
    refine ⟨fun m σ H' => ∃ a : Nat, σ = [some (.str z), some (.int (i : Int)), some (.int (a : Int))] ∧ H' = H ∧ i ≤ a ∧ a ≤ 100000 ∧ m = 100000 - a ∧ run isB z.cps.toList i = (a - i) + run isB z.cps.toList a,
      ⟨_, i, rfl, rfl, Nat.le_refl _, hi, rfl, by omega⟩, ?_⟩
    rintro m σ H' ⟨a, rfl, rfl, ha, ha2, rfl, hrun⟩
    refine ⟨_, rfl, _, rfl, z, rfl, small_line hz, _, _, rfl, rfl, _, rfl, ?_⟩
    have fin : run isB z.cps.toList a = 0 → Q (.int (a : Int)) H' := fun e0 => by
      have e : (a : Int) = ((i + run isB z.cps.toList i : Nat) : Int) := by omega
      rw [e]
      exact k
    by_cases hlt : a < z.length
    · obtain ⟨c, hc⟩ := in_list hlt
      refine iteTT (by omega) ?_
      refine ⟨_, rfl, _, rfl, z, (a : Int), c, rfl, rfl, by omega, by omega, by omega, by rw [Int.toNat_natCast, at_list]; exact hc, ?_⟩
      refine ⟨rfl, _, rfl, ?_⟩
      by_cases hp : c = 32
      · refine iteTT ((chr_iff blank_is).mpr hp) ?_
        have hp2 : isB c = true := decide_eq_true hp
        refine ⟨fun σ' H1 => σ' = [some (.str z), some (.int (i : Int)), some (.int ((a + 1 : Nat) : Int))] ∧ H1 = H', fun σ' H1 e => ⟨100000 - (a + 1), by omega, a + 1, e.1, e.2, by omega, by omega, rfl, by rw [hrun, run_some hc hp2]; omega⟩, ?_⟩
        exact ⟨_, rfl, _, _, rfl, rfl, rfl, rfl⟩
      · refine iteFF (fun e => hp ((chr_iff blank_is).mp e)) ?_
        exact ⟨_, rfl, fin (run_no hc (decide_eq_false hp))⟩
    · refine iteFF (by omega) ?_
      exact ⟨_, rfl, fin (run_out (by rw [len_list]; omega))⟩
theorem scCountN : FnScope ["text", "start", "at"] ["text", "start"] (defScope sCountN) := ⟨rfl, rfl, rfl, by decide +kernel, rfl, by decide +kernel, by decide +kernel⟩
theorem ok_countN {f : Addr} {fd : FuncData} {tk tk2 : Tok} (F : Fun K "count_name" "count_name" sCountN f fd) (ml : mg "len" = none) (mD : mg "DIGITS" = some (.str strD tk)) (mL : mg "LETTERS" = some (.str strL tk2)) : FnOk P w K mg base CX0 1 f fd ["text", "start"] spCountN := by
  refine F.ok scCountN (fun vs H Q E h => ?_) (fun cdv A outer s H vs Q E hr h => ?_)
  · obtain ⟨z, i, rfl, _⟩ := h
    rfl
  · obtain ⟨z, i, rfl, hz, hi, k⟩ := h
    refine ⟨_, pss_cons (ps_set (i := 2) scCountN.nd rfl (.inl rfl) (pv 1))
      (pss_cons (ps_while PassesOwn.never (PW.pt (pw_and (pt_cmpR op_lt (pv 2) (pe_callB call_len_str (by rfl) ml PySem.boot_len (pa_cons (pv 0) pa_nil)) (nomark _))
          (pw_and1 (PW.pt (pw_or (pt_cmpR op_in_sign (pe_item_str (pv 0) (pv 2) (fun _ _ => rfl)) (pe_glob (v := .str strL) rfl mL ⟨_, rfl⟩) (by rfl))
            (pw_or (pt_cmpR op_in_sign (pe_item_str (pv 0) (pv 2) (fun _ _ => rfl)) (pe_glob (v := .str strD) rfl mD ⟨_, rfl⟩) (by rfl))
            (pw_or1 (pt_cmpR op_eq (pe_item_str (pv 0) (pv 2) (fun _ _ => rfl)) pe_str (nomark _)))))))))
        (pss_one (ps_set (i := 2) scCountN.nd rfl (.inl rfl) (pe_op op_add (pv 2) pe_int))))
      (pss_one (ps_ret (pe_op op_sub (pv 2) (pv 1))))), ?_⟩
    refine ⟨_, rfl, ?_⟩
    refine ⟨fun m σ H' => ∃ a : Nat, σ = [some (.str z), some (.int (i : Int)), some (.int (a : Int))] ∧ H' = H ∧ i ≤ a ∧ a ≤ 100000 ∧ m = 100000 - a ∧ run isN z.cps.toList i = (a - i) + run isN z.cps.toList a,
      ⟨_, i, rfl, rfl, Nat.le_refl _, hi, rfl, by omega⟩, ?_⟩
    rintro m σ H' ⟨a, rfl, rfl, ha, ha2, rfl, hrun⟩
    refine ⟨_, rfl, _, rfl, z, rfl, small_line hz, _, _, rfl, rfl, _, rfl, ?_⟩
    have fin : run isN z.cps.toList a = 0 → Q (.int ((a : Int) - (i : Int))) H' := fun e0 => by
      have e : (a : Int) - (i : Int) = (run isN z.cps.toList i : Int) := by omega
      rw [e]
      exact k
    by_cases hlt : a < z.length
    · obtain ⟨c, hc⟩ := in_list hlt
      refine iteTT (by omega) ?_
      refine ⟨_, rfl, _, rfl, z, (a : Int), c, rfl, rfl, by omega, by omega, by omega, by rw [Int.toNat_natCast, at_list]; exact hc, ?_⟩
      refine ⟨c, strL, rfl, rfl, _, rfl, ?_⟩
      rw [strL_codes]
      by_cases h1 : isL c = true
      · have hp : isN c = true := by
          unfold isN
          rw [h1]
          rfl
        refine iteTT (of_decide_eq_true h1) ?_
        refine iteT ?_
        refine ⟨fun σ' H1 => σ' = [some (.str z), some (.int (i : Int)), some (.int ((a + 1 : Nat) : Int))] ∧ H1 = H', fun σ' H1 e => ⟨100000 - (a + 1), by omega, a + 1, e.1, e.2, by omega, by omega, rfl, by rw [hrun, run_some hc hp]; omega⟩, _, rfl, _, _, rfl, rfl, rfl, rfl⟩
      · have h1' : isL c = false := by simpa using h1
        refine iteFF (of_decide_eq_false h1') ?_
        refine ⟨_, rfl, _, rfl, z, (a : Int), c, rfl, rfl, by omega, by omega, by omega, by rw [Int.toNat_natCast, at_list]; exact hc, ?_⟩
        refine ⟨c, strD, rfl, rfl, _, rfl, ?_⟩
        rw [strD_codes]
        by_cases h2 : isD c = true
        · have hp : isN c = true := by
            unfold isN
            rw [h2, Bool.or_true, Bool.true_or]
          refine iteTT (of_decide_eq_true h2) ?_
          refine iteT ?_
          refine ⟨fun σ' H1 => σ' = [some (.str z), some (.int (i : Int)), some (.int ((a + 1 : Nat) : Int))] ∧ H1 = H', fun σ' H1 e => ⟨100000 - (a + 1), by omega, a + 1, e.1, e.2, by omega, by omega, rfl, by rw [hrun, run_some hc hp]; omega⟩, _, rfl, _, _, rfl, rfl, rfl, rfl⟩
        · have h2' : isD c = false := by simpa using h2
          refine iteFF (of_decide_eq_false h2') ?_
          refine ⟨_, rfl, _, rfl, z, (a : Int), c, rfl, rfl, by omega, by omega, by omega, by rw [Int.toNat_natCast, at_list]; exact hc, ?_⟩
          refine ⟨rfl, _, rfl, ?_⟩
          by_cases h3 : c = 95
          · have hp : isN c = true := by
              unfold isN
              rw [decide_eq_true h3, Bool.or_true]
            refine iteTT ((chr_iff under_is).mpr h3) ?_
            refine ⟨fun σ' H1 => σ' = [some (.str z), some (.int (i : Int)), some (.int ((a + 1 : Nat) : Int))] ∧ H1 = H', fun σ' H1 e => ⟨100000 - (a + 1), by omega, a + 1, e.1, e.2, by omega, by omega, rfl, by rw [hrun, run_some hc hp]; omega⟩, _, rfl, _, _, rfl, rfl, rfl, rfl⟩
          · have hp : isN c = false := by
              unfold isN
              rw [h1', h2', decide_eq_false h3]
              rfl
            refine iteFF (fun e => h3 ((chr_iff under_is).mp e)) ?_
            exact ⟨_, rfl, _, rfl, _, _, rfl, rfl, fin (run_no hc hp)⟩
    · refine iteFF (by omega) ?_
      exact ⟨_, rfl, _, rfl, _, _, rfl, rfl, fin (run_out (by rw [len_list]; omega))⟩
end
end Tp
/-! The defs of values that go along with the parameters. -/
namespace Tp
open PySem PySem.Spec PyProof.Rows L2
abbrev sConstant : Stmt := topS 14
abbrev sParameter : Stmt := topS 15
abbrev sAdd : Stmt := topS 16
abbrev sScale : Stmt := topS 17
abbrev sOpposite : Stmt := topS 18
/-! ### lists of fractions on the heap -/
def IsFrs (H : Hp) (a : Addr) (qs : List Q2) : Prop := ∃ as : List Addr, H a = some (.tup (as.map V.ref)) ∧ FrsAt H as qs
def IsVal (H : Hp) (a : Addr) (v : List Q2) : Prop := ∃ (b s : Addr) (q : Q2) (qs : List Q2), v = q :: qs ∧ H a = some (.tup [.ref b, .ref s]) ∧ IsFr H b q ∧ IsFrs H s qs
theorem FrsAt.same {H H' : Hp} (s : Same H H') {as : List Addr} {qs : List Q2} (h : FrsAt H as qs) : FrsAt H' as qs := h.mono fun b xs e => s b _ e
theorem IsFrs.same {H H' : Hp} (s : Same H H') {a : Addr} {qs : List Q2} (h : IsFrs H a qs) : IsFrs H' a qs := by
  obtain ⟨as, e, f⟩ := h
  exact ⟨as, s _ _ e, f.same s⟩
theorem IsVal.same {H H' : Hp} (s : Same H H') {a : Addr} {v : List Q2} (h : IsVal H a v) : IsVal H' a v := by
  obtain ⟨b, c, q, qs, e, e1, e2, e3⟩ := h
  exact ⟨b, c, q, qs, e, s _ _ e1, e2.mono s, e3.same s⟩
theorem FrsAt.snoc {H : Hp} {a : Addr} {q : Q2} (ha : IsFr H a q) : ∀ {as : List Addr} {qs : List Q2}, FrsAt H as qs → FrsAt H (as ++ [a]) (qs ++ [q])
  | _, _, .nil => .cons ha .nil
  | _, _, .cons h r => .cons h (r.snoc ha)
/-- a list object is changed: no tuple is -/
theorem FrsAt.lst {H : Hp} {D : Addr} {xs : List V} {o : HO} (hD : H D = some (.lst xs)) {as : List Addr} {qs : List Q2} (h : FrsAt H as qs) : FrsAt (upd H D o) as qs := h.mono fun b ys e => by
  rw [upd_ne (ne_of e hD (by intro z; cases z))]
  exact e
theorem same_lst {H H' : Hp} {D : Addr} {o : HO} (s : Same H H') (hD : H D = none) : Same H (upd H' D o) := fun b x e => by
  rw [upd_ne (ne_of_none e hD)]
  exact s b x e
/-- what a comprehension of fractions has made so far, at D -/
structure Made (H : Hp) (D : Addr) (qs : List Q2) (H' : Hp) : Prop where
  same : Same H H'
  lst : ∃ as : List Addr, H' D = some (.lst (as.map V.ref)) ∧ FrsAt H' as qs
theorem Made.start {H : Hp} {D : Addr} (hD : H D = none) : Made H D [] (upd H D (.lst [])) := ⟨same_new hD, [], upd_same, .nil⟩
/-- one more -/
theorem Made.more {H H1 H2 : Hp} {D p : Addr} {qs : List Q2} {q : Q2} (hD : H D = none) (m : Made H D qs H1) (s : Same H1 H2) (hp : IsFr H2 p q) (hl : qs.length < 100) :
    ∃ acc, H2 D = some (.lst acc) ∧ acc.length < sizeLine ∧ Made H D (qs ++ [q]) (upd H2 D (.lst (acc ++ [.ref p]))) := by
  obtain ⟨as, e, f⟩ := m.lst
  have e2 := s _ _ e
  refine ⟨as.map V.ref, e2, ?_, same_lst (m.same.trans s) hD, as ++ [p], ?_, ?_⟩
  · rw [List.length_map, f.len]
    exact small1000 (by omega)
  · rw [upd_same, List.map_append]
    rfl
  · exact FrsAt.lst e2 ((f.same s).snoc hp)
/-- tuple(..) of it -/
theorem Made.tup {H H1 : Hp} {D l : Addr} {qs : List Q2} (m : Made H D qs H1) (hl : H1 l = none) {as : List Addr} (e : H1 D = some (.lst (as.map V.ref))) (f : FrsAt H1 as qs) :
    Same H (upd H1 l (.tup (as.map V.ref))) ∧ IsFrs (upd H1 l (.tup (as.map V.ref))) l qs := ⟨m.same.trans (same_new hl), as, upd_same, f.same (same_new hl)⟩
/-- the value (base, slopes) -/
theorem val_made {H H1 : Hp} {b s p : Addr} {q : Q2} {qs : List Q2} (sm : Same H H1) (hb : IsFr H1 b q) (hs : IsFrs H1 s qs) (hp : H1 p = none) :
    Same H (upd H1 p (.tup [.ref b, .ref s])) ∧ IsVal (upd H1 p (.tup [.ref b, .ref s])) p (q :: qs) :=
  ⟨sm.trans (same_new hp), b, s, q, qs, rfl, upd_same, hb.mono (same_new hp), hs.same (same_new hp)⟩
theorem yesT {σ : L2.St} {H : Hp} {Q : Bool → Hp → Prop} (h : Q true H) : tYes σ H Q := h
/-! ### promises -/
def spConstant : Sp := fun vs H Q _ => ∃ (a : Addr) (n : Nat) (q : Q2), vs = [.ref a, .int (n : Int)] ∧ IsFr H a q ∧ n ≤ 10 ∧ ∀ H' r, Same H H' → IsVal H' r (q :: zeros n) → Q (.ref r) H'
def spParameter : Sp := fun vs H Q _ => ∃ (k n : Nat), vs = [.int (k : Int), .int (n : Int)] ∧ k < n ∧ n ≤ 10 ∧ ∀ H' r, Same H H' → IsVal H' r ((0, 1) :: (zeros n).set k (1, 1)) → Q (.ref r) H'
def spAdd : Sp := fun vs H Q _ => ∃ (a b : Addr) (u v : List Q2), vs = [.ref a, .ref b] ∧ IsVal H a u ∧ IsVal H b v ∧ u.length = v.length ∧ u.length ≤ 10 ∧ (∀ q ∈ u, Sz 3000 q) ∧ (∀ q ∈ v, Sz 3000 q) ∧
  ∀ H' r, Same H H' → IsVal H' r (List.zipWith plusQ u v) → Q (.ref r) H'
def spScale : Sp := fun vs H Q _ => ∃ (a b : Addr) (f : Q2) (v : List Q2), vs = [.ref a, .ref b] ∧ IsFr H a f ∧ IsVal H b v ∧ v.length ≤ 10 ∧ Sz 3000 f ∧ (∀ q ∈ v, Sz 3000 q) ∧ ∀ H' r, Same H H' → IsVal H' r (v.map (timesQ f)) → Q (.ref r) H'
def spOpposite : Sp := fun vs H Q _ => ∃ (a : Addr) (v : List Q2), vs = [.ref a] ∧ IsVal H a v ∧ v.length ≤ 10 ∧ ∀ H' r, Same H H' → IsVal H' r (v.map negQ) → Q (.ref r) H'
section
variable {P : Program} {w : World} {K : PySem.W.Frag} {mg : Str → Option Value} {base : Heap}
theorem scConstant : FnScope ["base", "many", "k"] ["base", "many"] (defScope sConstant) := ⟨rfl, rfl, rfl, by decide +kernel, rfl, by decide +kernel, by decide +kernel⟩
theorem zeros_len (i : Nat) : (zeros i).length = i := List.length_replicate ..
theorem zeros_snoc (i : Nat) : zeros (i + 1) = zeros i ++ [(0, 1)] := List.replicate_succ'
theorem ok_constant {f : Addr} {fd : FuncData} (F : Fun K "constant" "constant" sConstant f fd) (mt : mg "tuple" = none) (mr : mg "range" = none) : FnOk P w K mg base CX0 1 f fd ["base", "many"] spConstant := by
  refine F.ok scConstant (fun vs H Q E h => ?_) (fun cdv A outer s H vs Q E hr h => ?_)
  · obtain ⟨a, n, q, rfl, _⟩ := h
    rfl
  · obtain ⟨a, n, q, rfl, ha, hn, k⟩ := h
    refine ⟨_, pss_one (ps_ret (pe_tup (pa_cons (pv 0) (pa_cons (pe_callTy call_tuple_of (by rfl) mt (by decide +kernel) (pa_cons
      (pe_lc (own := [("k", 2)]) (g := gName 2) (tt := tYes) rfl scConstant.nd (pi_range1 (by rfl) mr (pa_cons (pv 1) pa_nil)) (blkOk_by (N := ["base", "many", "k"]) (sc := defScope sConstant) (by decide +kernel))
        (fun _ _ _ _ _ => pg_name (i := 2) scConstant.nd rfl (Or.inl rfl)) (fun _ _ _ _ _ => pts_nil) (fun _ _ _ _ _ => pe_tup (pa_cons pe_int (pa_cons pe_int pa_nil)))) pa_nil)) pa_nil)))), ?_⟩
    refine ⟨_, rfl, _, rfl, n, rfl, by omega, by omega, fun D hD => ?_⟩
    rw [Int.toNat_natCast]
    refine lc_range (lo := 0) (n := n) (fun i H' => Made H D (zeros i) H') (Made.start hD) (fun i H1 hi m => ?_) fun H1 m => ?_
    · refine ⟨rfl, yesT ?_⟩
      refine iteT ?_
      refine ⟨(by show 2 ≤ sizeLine; decide), fun p hp => ?_⟩
      rw [zeros_snoc]
      exact Made.more hD m (same_new hp) upd_same (by rw [zeros_len]; omega)
    · obtain ⟨as, e, fa⟩ := m.lst
      refine ⟨D, _, rfl, .inl ⟨.inl (.inl e), fun l hl => ?_⟩⟩
      obtain ⟨s1, t1⟩ := m.tup hl e fa
      refine ⟨(by show 2 ≤ sizeLine; decide), fun p hp => ?_⟩
      obtain ⟨s2, t2⟩ := val_made s1 (ha.mono s1) t1 hp
      exact k _ p s2 t2
theorem scParameter : FnScope ["at", "many", "k"] ["at", "many"] (defScope sParameter) := ⟨rfl, rfl, rfl, by decide +kernel, rfl, by decide +kernel, by decide +kernel⟩
def parL (k n : Nat) : List Q2 := (List.range n).map fun j => (if j = k then 1 else 0, 1)
theorem parL_len (k n : Nat) : (parL k n).length = n := by
  unfold parL
  rw [List.length_map, List.length_range]
theorem parL_is {k n : Nat} : parL k n = (zeros n).set k (1, 1) := by
  refine List.ext_getElem? fun j => ?_
  unfold parL zeros
  rw [List.getElem?_map, List.getElem?_set, List.getElem?_replicate, List.length_replicate]
  by_cases hj : j < n
  · rw [List.getElem?_range hj]
    show some ((if j = k then (1 : Int) else 0), (1 : Int)) = _
    by_cases e : k = j
    · rw [if_pos e, if_pos (show k < n by omega), if_pos e.symm]
    · rw [if_neg e, if_pos hj, if_neg (fun z => e z.symm)]
  · have h1 : (List.range n)[j]? = none := by
      rw [List.getElem?_eq_none_iff, List.length_range]
      omega
    rw [h1]
    show none = _
    by_cases e : k = j
    · rw [if_pos e, if_neg (show ¬ k < n by omega)]
    · rw [if_neg e, if_neg hj]
theorem parL_snoc (k i : Nat) : parL k (i + 1) = parL k i ++ [(if i = k then 1 else 0, 1)] := by
  unfold parL
  rw [List.range_succ, List.map_append]
  rfl
theorem ok_parameter {f : Addr} {fd : FuncData} (F : Fun K "parameter" "parameter" sParameter f fd) (mt : mg "tuple" = none) (mr : mg "range" = none) : FnOk P w K mg base CX0 1 f fd ["at", "many"] spParameter := by
  refine F.ok scParameter (fun vs H Q E h => ?_) (fun cdv A outer s H vs Q E hr h => ?_)
  · obtain ⟨a, n, rfl, _⟩ := h
    rfl
  · obtain ⟨a, n, rfl, ha, hn, k⟩ := h
    refine ⟨_, pss_one (ps_ret (pe_tup (pa_cons (pe_tup (pa_cons pe_int (pa_cons pe_int pa_nil))) (pa_cons (pe_callTy call_tuple_of (by rfl) mt (by decide +kernel) (pa_cons
      (pe_lc (own := [("k", 2)]) (g := gName 2) (tt := tYes) rfl scParameter.nd (pi_range1 (by rfl) mr (pa_cons (pv 1) pa_nil)) (blkOk_by (N := ["at", "many", "k"]) (sc := defScope sParameter) (by decide +kernel))
        (fun _ _ _ _ _ => pg_name (i := 2) scParameter.nd rfl (Or.inl rfl)) (fun _ _ _ _ _ => pts_nil) (fun _ _ _ _ _ => pe_tup (pa_cons (pe_ifExp (pt_cmpR op_eq (pv 2) (pv 0) (nomark _)) pe_int pe_int) (pa_cons pe_int pa_nil)))) pa_nil)) pa_nil)))), ?_⟩
    refine ⟨(by show 2 ≤ sizeLine; decide), fun b hb => ?_⟩
    have sb : Same H (upd H b (.tup [.int 0, .int 1])) := same_new hb
    refine ⟨_, rfl, n, rfl, by omega, by omega, fun D hD => ?_⟩
    rw [Int.toNat_natCast]
    refine lc_range (lo := 0) (n := n) (fun i H' => Made (upd H b (.tup [.int 0, .int 1])) D (parL a i) H') (Made.start hD) (fun i H1 hi m => ?_) fun H1 m => ?_
    · refine ⟨rfl, yesT ?_⟩
      refine iteT ?_
      refine ⟨_, rfl, _, rfl, rfl, _, rfl, ?_⟩
      have fin : ∀ z : Int, z = (if i = a then 1 else 0) → ∀ p, H1 p = none → ∃ acc, upd H1 p (HO.tup [.int z, .int 1]) D = some (.lst acc) ∧ acc.length < sizeLine ∧ Made (upd H b (.tup [.int 0, .int 1])) D (parL a (i + 1)) (upd (upd H1 p (HO.tup [.int z, .int 1])) D (.lst (acc ++ [.ref p]))) := fun z hz p hp => by
        rw [parL_snoc, hz]
        exact Made.more hD m (same_new hp) upd_same (by rw [parL_len]; omega)
      refine ite2 (fun c => ?_) (fun c => ?_)
      · have c2 : V.int (0 + (i : Int)) = V.int (a : Int) := of_decide_eq_true c
        have c3 := V.int.inj c2
        exact ⟨(by show 2 ≤ sizeLine; decide), fin 1 (by rw [if_pos (by omega)])⟩
      · have c2 : ¬ V.int (0 + (i : Int)) = V.int (a : Int) := fun z => c (decide_eq_true z)
        have c3 : ¬ i = a := fun z => c2 (by rw [z, Int.zero_add])
        exact ⟨(by show 2 ≤ sizeLine; decide), fin 0 (by rw [if_neg c3])⟩
    · obtain ⟨as, e, fa⟩ := m.lst
      refine ⟨D, _, rfl, .inl ⟨.inl (.inl e), fun l hl => ?_⟩⟩
      obtain ⟨s1, t1⟩ := m.tup hl e fa
      refine ⟨(by show 2 ≤ sizeLine; decide), fun p hp => ?_⟩
      have hb2 : IsFr (upd H b (.tup [.int 0, .int 1])) b (0, 1) := upd_same
      obtain ⟨s2, t2⟩ := val_made s1 (hb2.mono s1) t1 hp
      rw [parL_is] at t2
      exact k _ p (sb.trans s2) t2
theorem scAdd : FnScope ["a", "b", "k"] ["a", "b"] (defScope sAdd) := ⟨rfl, rfl, rfl, by decide +kernel, rfl, by decide +kernel, by decide +kernel⟩
theorem val_at0 {b s : Addr} : atI [V.ref b, V.ref s] 0 = some (.ref b) := atI_nat (xs := [V.ref b, V.ref s]) (j := 0) rfl
theorem val_at1 {b s : Addr} : atI [V.ref b, V.ref s] 1 = some (.ref s) := atI_nat (xs := [V.ref b, V.ref s]) (j := 1) rfl
theorem ref_at {as : List Addr} {i : Nat} {a : Addr} {z : Int} (e : z = (i : Int)) (h : as[i]? = some a) : atI (as.map V.ref) z = some (.ref a) := by
  rw [e]
  refine atI_nat ?_
  rw [List.getElem?_map, h]
  rfl
theorem take_snoc {α : Type} {l : List α} {i : Nat} {x : α} (h : l[i]? = some x) : l.take (i + 1) = l.take i ++ [x] := by
  rw [List.take_add_one, h]
  rfl
theorem zip_at {us vs : List Q2} {i : Nat} {x y : Q2} (h1 : us[i]? = some x) (h2 : vs[i]? = some y) : (List.zipWith plusQ us vs)[i]? = some (plusQ x y) := by
  rw [List.getElem?_zipWith, h1, h2]
theorem take_len_lt {α : Type} {l : List α} {i : Nat} (h : l.length ≤ 50) : (l.take i).length < 100 := by
  rw [List.length_take]
  omega
theorem ok_add {f fp : Addr} {fd fdp : FuncData} (F : Fun K "add" "add" sAdd f fd) (GP : FnOk P w K mg base CX0 3 fp fdp ["a", "b"] spPlus) (cP : CallF K mg "plus" fp fdp ["a", "b"]) (mt : mg "tuple" = none) (mr : mg "range" = none) (ml : mg "len" = none) : FnOk P w K mg base CX0 4 f fd ["a", "b"] spAdd := by
  refine F.ok scAdd (fun vs H Q E h => ?_) (fun cdv A outer s H vs Q E hr h => ?_)
  · obtain ⟨a, b, u, v, rfl, _⟩ := h
    rfl
  · obtain ⟨a, b, u, v, rfl, ⟨a1, a2, p, us, rfl, ea, pa, as, ea2, fa⟩, ⟨b1, b2, q, vs, rfl, eb, qb, bs, eb2, fb⟩, hl, hl10, su, sv, k⟩ := h
    have hl2 : us.length = vs.length := Nat.succ.inj hl
    have hus : us.length ≤ 9 := Nat.le_of_succ_le_succ hl10
    refine ⟨_, pss_one (ps_ret (pe_tup (pa_cons (pe_call GP hr (by rfl) cP.gl cP.kp cP.bd .nil pass0 (pa_cons (pe_ix ix_tup (pv 0) pe_int (fun _ _ => rfl)) (pa_cons (pe_ix ix_tup (pv 1) pe_int (fun _ _ => rfl)) pa_nil)))
      (pa_cons (pe_callTy call_tuple_of (by rfl) mt (by decide +kernel) (pa_cons
      (pe_lc (own := [("k", 2)]) (g := gName 2) (tt := tYes) rfl scAdd.nd (pi_range1 (by rfl) mr (pa_cons (pe_callB call_len_seq (by rfl) ml PySem.boot_len (pa_cons (pe_ix ix_tup (pv 0) pe_int (fun _ _ => rfl)) pa_nil)) pa_nil)) (blkOk_by (N := ["a", "b", "k"]) (sc := defScope sAdd) (by decide +kernel))
        (fun _ _ _ _ _ => pg_name (i := 2) scAdd.nd rfl (Or.inl rfl)) (fun _ _ _ _ _ => pts_nil)
        (fun _ _ _ _ _ => pe_call GP hr (by rfl) cP.gl cP.kp cP.bd .nil pass0 (pa_cons (pe_ix (r := rIxT K) ix_tup (pe_ix (r := rIxT K) ix_tup (pv 0) pe_int (fun _ _ => rfl)) (pv 2) (fun _ _ => rfl)) (pa_cons (pe_ix (r := rIxT K) ix_tup (pe_ix (r := rIxT K) ix_tup (pv 1) pe_int (fun _ _ => rfl)) (pv 2) (fun _ _ => rfl)) pa_nil)))) pa_nil)) pa_nil)))), ?_⟩
    refine ⟨_, rfl, a, _, _, _, rfl, rfl, .inl (.inl ea), val_at0, _, rfl, b, _, _, _, rfl, rfl, .inl (.inl eb), val_at0, ?_⟩
    refine ⟨a1, b1, p, q, rfl, pa, qb, su p List.mem_cons_self, sv q List.mem_cons_self, fun H1 r1 s1 t1 => ?_⟩
    refine ⟨_, rfl, a, _, _, _, rfl, rfl, .inl (.inl (s1 _ _ ea)), val_at1, a2, _, rfl, .inr (.inl (.inl (s1 _ _ ea2))), (as.length : Int), (by rw [List.length_map]), by rw [fa.len]; omega, by rw [fa.len]; omega, fun D hD => ?_⟩
    rw [Int.toNat_natCast, fa.len]
    refine lc_range (lo := 0) (n := us.length) (fun i H' => Made H1 D ((List.zipWith plusQ us vs).take i) H') (Made.start hD) (fun i H2 hi m => ?_) fun H2 m => ?_
    · obtain ⟨x, hx⟩ : ∃ x, us[i]? = some x := ⟨_, List.getElem?_eq_getElem hi⟩
      obtain ⟨y, hy⟩ : ∃ y, vs[i]? = some y := ⟨_, List.getElem?_eq_getElem (by omega)⟩
      obtain ⟨ax, gax, fax⟩ := fa.get hx
      obtain ⟨ay, gay, fay⟩ := fb.get hy
      have s2 : Same H H2 := s1.trans m.same
      refine ⟨rfl, yesT ?_⟩
      refine iteT ?_
      refine ⟨_, rfl, a, _, _, _, rfl, rfl, .inl (.inl (s2 _ _ ea)), val_at1, _, rfl, a2, _, _, _, rfl, rfl, .inl (.inl (s2 _ _ ea2)), ref_at (by omega) gax, ?_⟩
      refine ⟨_, rfl, b, _, _, _, rfl, rfl, .inl (.inl (s2 _ _ eb)), val_at1, _, rfl, b2, _, _, _, rfl, rfl, .inl (.inl (s2 _ _ eb2)), ref_at (by omega) gay, ?_⟩
      refine ⟨ax, ay, x, y, rfl, fax.mono s2, fay.mono s2, su x (List.mem_cons_of_mem _ (List.mem_of_getElem? hx)), sv y (List.mem_cons_of_mem _ (List.mem_of_getElem? hy)), fun H3 r3 s3 t3 => ?_⟩
      rw [take_snoc (zip_at hx hy)]
      exact Made.more hD m s3 t3 (take_len_lt (by rw [List.length_zipWith]; omega))
    · obtain ⟨cs, e, fc⟩ := m.lst
      refine ⟨D, _, rfl, .inl ⟨.inl (.inl e), fun l hl9 => ?_⟩⟩
      obtain ⟨s3, t3⟩ := m.tup hl9 e fc
      rw [List.take_of_length_le (by rw [List.length_zipWith]; omega)] at t3
      refine ⟨(by show 2 ≤ sizeLine; decide), fun r hr9 => ?_⟩
      obtain ⟨s4, t4⟩ := val_made s3 (t1.mono s3) t3 hr9
      exact k _ r (s1.trans s4) t4
theorem scScale : FnScope ["factor", "a", "one"] ["factor", "a"] (defScope sScale) := ⟨rfl, rfl, rfl, by decide +kernel, rfl, by decide +kernel, by decide +kernel⟩
theorem ref_get {as : List Addr} {i : Nat} {v : V} (h : (as.map V.ref)[i]? = some v) : ∃ a, as[i]? = some a ∧ v = .ref a := by
  rw [List.getElem?_map] at h
  cases e : as[i]? with
  | none =>
    rw [e] at h
    cases h
  | some a =>
    rw [e] at h
    exact ⟨a, rfl, (Option.some.inj h).symm⟩
theorem FrsAt.back {H : Hp} : ∀ {as : List Addr} {qs : List Q2} {i : Nat} {a : Addr}, FrsAt H as qs → as[i]? = some a → ∃ q, qs[i]? = some q ∧ IsFr H a q
  | _, _, _, _, .nil, e => by simp at e
  | _, _, 0, a, .cons h _, e => by
    have e2 := Option.some.inj e
    subst e2
    exact ⟨_, rfl, h⟩
  | _, _, i + 1, a, .cons _ r, e => FrsAt.back (i := i) r e
theorem map_at {us : List Q2} {g : Q2 → Q2} {i : Nat} {x : Q2} (h : us[i]? = some x) : (us.map g)[i]? = some (g x) := by
  rw [List.getElem?_map, h]
  rfl
theorem ok_scale {f fp : Addr} {fd fdp : FuncData} (F : Fun K "scale" "scale" sScale f fd) (GP : FnOk P w K mg base CX0 3 fp fdp ["a", "b"] spTimes) (cP : CallF K mg "times" fp fdp ["a", "b"]) (mt : mg "tuple" = none) : FnOk P w K mg base CX0 4 f fd ["factor", "a"] spScale := by
  refine F.ok scScale (fun vs H Q E h => ?_) (fun cdv A outer s H vs Q E hr h => ?_)
  · obtain ⟨a, b, f, v, rfl, _⟩ := h
    rfl
  · obtain ⟨a, b, g, v, rfl, ha, ⟨b1, b2, q, vs, rfl, eb, qb, bs, eb2, fb⟩, hl10, sg, sv, k⟩ := h
    have hvs : vs.length ≤ 9 := Nat.le_of_succ_le_succ hl10
    refine ⟨_, pss_one (ps_ret (pe_tup (pa_cons (pe_call GP hr (by rfl) cP.gl cP.kp cP.bd .nil pass0 (pa_cons (pv 0) (pa_cons (pe_ix ix_tup (pv 1) pe_int (fun _ _ => rfl)) pa_nil)))
      (pa_cons (pe_callTy call_tuple_of (by rfl) mt (by decide +kernel) (pa_cons
      (pe_lc (own := [("one", 2)]) (g := gName 2) (tt := tYes) rfl scScale.nd (pi_tup (pe_ix ix_tup (pv 1) pe_int (fun _ _ => rfl))) (blkOk_by (N := ["factor", "a", "one"]) (sc := defScope sScale) (by decide +kernel))
        (fun _ _ _ _ _ => pg_name (i := 2) scScale.nd rfl (Or.inl rfl)) (fun _ _ _ _ _ => pts_nil)
        (fun _ _ _ _ _ => pe_call GP hr (by rfl) cP.gl cP.kp cP.bd .nil pass0 (pa_cons (pv 0) (pa_cons (pv 2) pa_nil)))) pa_nil)) pa_nil)))), ?_⟩
    refine ⟨_, rfl, _, rfl, b, _, _, _, rfl, rfl, .inl (.inl eb), val_at0, ?_⟩
    refine ⟨a, b1, g, q, rfl, ha, qb, sg, sv q List.mem_cons_self, fun H1 r1 s1 t1 => ?_⟩
    refine ⟨_, rfl, b, _, _, _, rfl, rfl, .inl (.inl (s1 _ _ eb)), val_at1, b2, rfl, ⟨_, .inl (.inl (s1 _ _ eb2))⟩, fun D hD => ?_⟩
    refine lc_tup (K := K) (a := b2) (xs := bs.map V.ref) (fun i H' => Made H1 D ((vs.map (timesQ g)).take i) H') (Made.start hD) (fun i H2 _ m => .inl (.inl (m.same _ _ (s1 _ _ eb2)))) (fun i z H2 hz m => ?_) fun H2 m => ?_
    · obtain ⟨ay, gay, rfl⟩ := ref_get hz
      obtain ⟨y, hy, fay⟩ := fb.back gay
      have s2 : Same H H2 := s1.trans m.same
      refine ⟨rfl, yesT ?_⟩
      refine iteT ?_
      refine ⟨_, rfl, _, rfl, a, ay, g, y, rfl, ha.mono s2, fay.mono s2, sg, sv y (List.mem_cons_of_mem _ (List.mem_of_getElem? hy)), fun H3 r3 s3 t3 => ?_⟩
      rw [take_snoc (map_at (g := timesQ g) hy)]
      exact Made.more hD m s3 t3 (take_len_lt (by rw [List.length_map]; omega))
    · obtain ⟨cs, e, fc⟩ := m.lst
      refine ⟨D, _, rfl, .inl ⟨.inl (.inl e), fun l hl9 => ?_⟩⟩
      obtain ⟨s3, t3⟩ := m.tup hl9 e fc
      rw [List.take_of_length_le (by rw [List.length_map, List.length_map, fb.len]; omega)] at t3
      refine ⟨(by show 2 ≤ sizeLine; decide), fun r hr9 => ?_⟩
      obtain ⟨s4, t4⟩ := val_made s3 (t1.mono s3) t3 hr9
      exact k _ r (s1.trans s4) t4
theorem scOpposite : FnScope ["a", "one"] ["a"] (defScope sOpposite) := ⟨rfl, rfl, rfl, by decide +kernel, rfl, by decide +kernel, by decide +kernel⟩
theorem ok_opposite {f fp : Addr} {fd fdp : FuncData} (F : Fun K "opposite" "opposite" sOpposite f fd) (GP : FnOk P w K mg base CX0 1 fp fdp ["a"] spNegative) (cP : CallF K mg "negative" fp fdp ["a"]) (mt : mg "tuple" = none) : FnOk P w K mg base CX0 2 f fd ["a"] spOpposite := by
  refine F.ok scOpposite (fun vs H Q E h => ?_) (fun cdv A outer s H vs Q E hr h => ?_)
  · obtain ⟨b, v, rfl, _⟩ := h
    rfl
  · obtain ⟨b, v, rfl, ⟨b1, b2, q, vs, rfl, eb, qb, bs, eb2, fb⟩, hl10, k⟩ := h
    have hvs : vs.length ≤ 9 := Nat.le_of_succ_le_succ hl10
    refine ⟨_, pss_one (ps_ret (pe_tup (pa_cons (pe_call GP hr (by rfl) cP.gl cP.kp cP.bd .nil pass0 (pa_cons (pe_ix ix_tup (pv 0) pe_int (fun _ _ => rfl)) pa_nil))
      (pa_cons (pe_callTy call_tuple_of (by rfl) mt (by decide +kernel) (pa_cons
      (pe_lc (own := [("one", 1)]) (g := gName 1) (tt := tYes) rfl scOpposite.nd (pi_tup (pe_ix ix_tup (pv 0) pe_int (fun _ _ => rfl))) (blkOk_by (N := ["a", "one"]) (sc := defScope sOpposite) (by decide +kernel))
        (fun _ _ _ _ _ => pg_name (i := 1) scOpposite.nd rfl (Or.inl rfl)) (fun _ _ _ _ _ => pts_nil)
        (fun _ _ _ _ _ => pe_call GP hr (by rfl) cP.gl cP.kp cP.bd .nil pass0 (pa_cons (pv 1) pa_nil))) pa_nil)) pa_nil)))), ?_⟩
    refine ⟨_, rfl, b, _, _, _, rfl, rfl, .inl (.inl eb), val_at0, ?_⟩
    refine ⟨b1, q, rfl, qb, fun H1 r1 s1 t1 => ?_⟩
    refine ⟨_, rfl, b, _, _, _, rfl, rfl, .inl (.inl (s1 _ _ eb)), val_at1, b2, rfl, ⟨_, .inl (.inl (s1 _ _ eb2))⟩, fun D hD => ?_⟩
    refine lc_tup (K := K) (a := b2) (xs := bs.map V.ref) (fun i H' => Made H1 D ((vs.map negQ).take i) H') (Made.start hD) (fun i H2 _ m => .inl (.inl (m.same _ _ (s1 _ _ eb2)))) (fun i z H2 hz m => ?_) fun H2 m => ?_
    · obtain ⟨ay, gay, rfl⟩ := ref_get hz
      obtain ⟨y, hy, fay⟩ := fb.back gay
      have s2 : Same H H2 := s1.trans m.same
      refine ⟨rfl, yesT ?_⟩
      refine iteT ?_
      refine ⟨_, rfl, ay, y, rfl, fay.mono s2, fun H3 r3 s3 t3 => ?_⟩
      rw [take_snoc (map_at (g := negQ) hy)]
      exact Made.more hD m s3 t3 (take_len_lt (by rw [List.length_map]; omega))
    · obtain ⟨cs, e, fc⟩ := m.lst
      refine ⟨D, _, rfl, .inl ⟨.inl (.inl e), fun l hl9 => ?_⟩⟩
      obtain ⟨s3, t3⟩ := m.tup hl9 e fc
      rw [List.take_of_length_le (by rw [List.length_map, List.length_map, fb.len]; omega)] at t3
      refine ⟨(by show 2 ≤ sizeLine; decide), fun r hr9 => ?_⟩
      obtain ⟨s4, t4⟩ := val_made s3 (t1.mono s3) t3 hr9
      exact k _ r (s1.trans s4) t4
end
end Tp
/-! The reader's defs. -/
namespace Tp
open PySem PySem.Spec PyProof.Rows L2
abbrev sReadNum : Stmt := topS 23
abbrev sReadPar : Stmt := topS 24
abbrev sReadTerm : Stmt := topS 25
abbrev sShort : Stmt := topS 26
abbrev sReadEx : Stmt := topS 27
theorem cut_is {z : Str} {u r : List Nat} {i : Nat} {a b : Int} (ha : a = (i : Int)) (hb : b = ((i + u.length : Nat) : Int)) (h : z.cps.toList.drop i = u ++ r) (hu : u ≠ []) : (cutS z (some a) (some b)).cps.toList = u := by
  subst ha
  subst hb
  have hl : (z.cps.toList.drop i).length = u.length + r.length := by rw [h, List.length_append]
  rw [List.length_drop, len_list] at hl
  have hu2 : 0 < u.length := List.length_pos_iff.mpr hu
  show (((z.cps.toList.drop (HT.sIx z.length 0 (some (i : Int)))).take (HT.sIx z.length z.length (some ((i + u.length : Nat) : Int)) - HT.sIx z.length 0 (some (i : Int)))).toArray).toList = u
  rw [HT.sIx_nat, HT.sIx_nat, List.toList_toArray, show min i z.length = i by omega, show min (i + u.length) z.length = i + u.length by omega, show i + u.length - i = u.length by omega]
  exact take_drop h
theorem stroke_is : ("/" : Str) = ⟨#[47]⟩ := by decide +kernel
/-! ### numbers -/
def spReadNum : Sp := fun vs H Q _ => ∃ (z : Str) (i n : Nat) (t : Tm) (r : List Nat), vs = [.str z, .int (i : Int)] ∧ z.length ≤ 90000 ∧ t.Ok n ∧ z.cps.toList.drop i = t.num ++ r ∧ Stop isD r ∧ (t.st = false → r.head? ≠ some 47) ∧
  ∀ H' p q, Same H H' → H' p = some (.tup [.ref q, .int ((i + t.num.length : Nat) : Int)]) → IsFr H' q t.nval → Q (.ref p) H'
structure CallF1 (K : PySem.W.Frag) (mg : Str → Option Value) (f : Addr) (fd : FuncData) : Prop where
  two : CallF K mg "fraction" f fd ["number", "divisor"]
  one : ∃ ds, Vals [V.int 1] ds ∧ Binds K fd ["number", "divisor"] ds
section
variable {P : Program} {w : World} {K : PySem.W.Frag} {mg : Str → Option Value} {base : Heap}
theorem scReadNum : FnScope ["text", "start", "many", "number", "behind", "below"] ["text", "start"] (defScope sReadNum) := ⟨rfl, rfl, rfl, by decide +kernel, rfl, by decide +kernel, by decide +kernel⟩
theorem dg_len12 {t : Tm} {n : Nat} (h : t.Ok n) : 1 ≤ (dg t.top).length ∧ (dg t.top).length ≤ 12 := by
  rw [dg_len]
  exact ⟨ln_pos _, ln_le (Nat.lt_of_lt_of_le h.top (by decide)) (by decide)⟩
theorem dg_len12' {t : Tm} {n : Nat} (h : t.Ok n) : 1 ≤ (dg t.low).length ∧ (dg t.low).length ≤ 12 := by
  rw [dg_len]
  exact ⟨ln_pos _, ln_le (Nat.lt_of_le_of_lt h.low2 (by decide)) (by decide)⟩
theorem ok_readNum {f fc ff : Addr} {fd fdc fdf : FuncData} {tk : Tok} (F : Fun K "read_number" "read_number" sReadNum f fd) (GC : FnOk P w K mg base CX0 1 fc fdc ["text", "start"] spCountD) (cC : CallF K mg "count_digits" fc fdc ["text", "start"])
    (GF : FnOk P w K mg base CX0 2 ff fdf ["number", "divisor"] spFraction) (cF : CallF1 K mg ff fdf) (ml : mg "len" = none) (mi : mg "int" = none) (mL : mg "LONGEST" = some (.int 12 tk)) : FnOk P w K mg base CX0 3 f fd ["text", "start"] spReadNum := by
  refine F.ok scReadNum (fun vs H Q E h => ?_) (fun cdv A outer s H vs Q E hr h => ?_)
  · obtain ⟨z, i, n, t, r, rfl, _⟩ := h
    rfl
  · obtain ⟨z, i, n, t, r, rfl, hz, ht, hd, hs, hst, k⟩ := h
    obtain ⟨ds1, rv1, bd1⟩ := cF.one
    have hr1 : Room 1 _ := hr.mono (by decide)
    have hil : i + (dg t.top).length ≤ 90000 := by
      have e : (z.cps.toList.drop i).length = (t.num ++ r).length := by rw [hd]
      rw [List.length_drop, len_list] at e
      unfold Tm.num at e
      rw [List.length_append, List.length_append] at e
      have := (dg_len12 ht).1
      omega
    refine ⟨_, pss_cons (ps_set (i := 2) scReadNum.nd rfl (.inl rfl) (pe_call GC hr1 (by rfl) cC.gl cC.kp cC.bd .nil pass0 (pa_cons (pv 0) (pa_cons (pv 1) pa_nil))))
      (pss_cons (ps_if (PW.pt (pw_or (pt_cmpR op_lt (pv 2) pe_int (nomark _)) (pw_or1 (pt_cmpR op_gt (pv 2) (pe_glob (v := .int 12) rfl mL ⟨_, rfl⟩) (nomark _))))) pss_never pss_nil)
      (pss_cons (ps_set (i := 3) scReadNum.nd rfl (.inl rfl) (pe_callTy call_int_str (by rfl) mi (by decide +kernel) (pa_cons (pe_slice sl_str (pv 0) (po_some (pv 1)) (po_some (pe_op op_add (pv 1) (pv 2)))) pa_nil)))
      (pss_cons (ps_set (i := 4) scReadNum.nd rfl (.inl rfl) (pe_op op_add (pv 1) (pv 2)))
      (pss_cons (ps_if (PW.pt (pw_and (pt_cmpR op_lt (pv 4) (pe_callB call_len_str (by rfl) ml PySem.boot_len (pa_cons (pv 0) pa_nil)) (nomark _)) (pw_and1 (pt_cmpR op_eq (pe_item_str (pv 0) (pv 4) (fun _ _ => rfl)) pe_str (nomark _)))))
        (pss_cons (ps_set (i := 5) scReadNum.nd rfl (.inl rfl) (pe_call GC hr1 (by rfl) cC.gl cC.kp cC.bd .nil pass0 (pa_cons (pv 0) (pa_cons (pe_op op_add (pv 4) pe_int) pa_nil))))
        (pss_cons (ps_if (PW.pt (pw_or (pt_cmpR op_lt (pv 5) pe_int (nomark _)) (pw_or (pt_cmpR op_gt (pv 5) (pe_glob (v := .int 12) rfl mL ⟨_, rfl⟩) (nomark _))
            (pw_or1 (pt_cmpR op_eq (pe_callTy call_int_str (by rfl) mi (by decide +kernel) (pa_cons (pe_slice sl_str (pv 0) (po_some (pe_op op_add (pv 4) pe_int)) (po_some (pe_op op_add (pe_op op_add (pv 4) pe_int) (pv 5)))) pa_nil)) pe_int (nomark _)))))) pss_never pss_nil)
        (pss_one (ps_ret (pe_tup (pa_cons (pe_call GF hr (by rfl) cF.two.gl cF.two.kp cF.two.bd .nil pass0 (pa_cons (pv 3) (pa_cons (pe_callTy call_int_str (by rfl) mi (by decide +kernel) (pa_cons (pe_slice sl_str (pv 0) (po_some (pe_op op_add (pv 4) pe_int)) (po_some (pe_op op_add (pe_op op_add (pv 4) pe_int) (pv 5)))) pa_nil)) pa_nil)))
          (pa_cons (pe_op op_add (pe_op op_add (pv 4) pe_int) (pv 5)) pa_nil))))))) pss_nil)
      (pss_one (ps_ret (pe_tup (pa_cons (pe_call GF hr (by rfl) cF.two.gl cF.two.kp bd1 rv1 pass0 (pa_cons (pv 3) pa_nil)) (pa_cons (pv 4) pa_nil))))))))), ?_⟩
    -- many = count_digits(text, start)
    refine ⟨_, rfl, _, rfl, z, i, rfl, by omega, by omega, ?_⟩
    have hd1 : z.cps.toList.drop i = dg t.top ++ ((if t.st = true then 47 :: dg t.low else []) ++ r) := by
      rw [hd]
      unfold Tm.num
      rw [List.append_assoc]
    have st1 : Stop isD ((if t.st = true then 47 :: dg t.low else []) ++ r) := fun c hc => by
      cases e : t.st with
      | true =>
        rw [e, if_pos rfl] at hc
        have ec : 47 = c := Option.some.inj hc
        rw [← ec]
        decide
      | false =>
        rw [e, if_neg Bool.false_ne_true, List.nil_append] at hc
        exact hs c hc
    have e1 : run isD z.cps.toList i = (dg t.top).length := run_of hd1 (dg_isD _) st1
    rw [e1]
    have l1 := dg_len12 ht
    refine ⟨_, rfl, _, _, rfl, rfl, _, rfl, ?_⟩
    refine iteFF (by omega) ?_
    refine ⟨_, rfl, _, _, rfl, rfl, _, rfl, ?_⟩
    refine iteFF (by omega) ?_
    -- number = int(text[start:start + many])
    refine ⟨_, rfl, _, rfl, _, rfl, _, rfl, _, rfl, _, _, rfl, rfl, _, rfl, z, rfl, small_line (by omega), ?_⟩
    have cu1 := cut_is (z := z) (a := (i : Int)) (b := (i : Int) + ((dg t.top).length : Int)) rfl (by omega) hd1 (dg_ne _)
    obtain ⟨n1, n2⟩ := num_int cu1 (by have := l1.2; rw [dg_len] at this; omega)
    refine ⟨_, _, rfl, n1, n2, ?_⟩
    refine ⟨_, rfl, _, rfl, _, _, rfl, rfl, ?_⟩
    have hd2 : z.cps.toList.drop (i + (dg t.top).length) = (if t.st = true then 47 :: dg t.low else []) ++ r := drop_more hd1
    refine ⟨_, rfl, _, rfl, z, rfl, small_line (by omega), _, _, rfl, rfl, _, rfl, ?_⟩
    have bc : ∀ a : Nat, a < z.length ↔ ((a : Int) < ((z.length : Nat) : Int)) := fun a => by omega
    -- the plain end: return (fraction(number), behind)
    have plain : t.st = false → tRet (tTup (tCons (tCall spFraction [V.int 1] E0 (tCons (tVar 3) tNil)) (tCons (tVar 4) tNil))) { nx := fun _ H' => Q .non H', rt := Q }
        [some (.str z), some (.int (i : Int)), some (.int ((dg t.top).length : Int)), some (.int (t.top : Int)), some (.int ((i : Int) + ((dg t.top).length : Int))), none] H := fun e => by
      refine ⟨_, rfl, (t.top : Int), 1, rfl, by decide, by decide +kernel, fun H1 p1 s1 f1 => ?_⟩
      refine ⟨_, rfl, (by show 2 ≤ sizeLine; decide), fun p hp => ?_⟩
      have en : t.num.length = (dg t.top).length := by
        unfold Tm.num
        rw [e, if_neg Bool.false_ne_true, List.append_nil]
      have ev : t.nval = fr (t.top : Int) 1 := by
        unfold Tm.nval
        rw [e, if_neg Bool.false_ne_true, fr_one]
      refine k _ p p1 (s1.trans (same_new hp)) ?_ ?_
      · rw [upd_same, en, Int.natCast_add]
      · rw [ev]
        exact f1.mono (same_new hp)
    cases est : t.st with
    | false =>
      rw [est, if_neg Bool.false_ne_true, List.nil_append] at hd2
      cases r with
      | nil =>
        refine iteFF (by have := ge_drop hd2; rw [len_list] at this; omega) ?_
        exact plain est
      | cons c r' =>
        have hlt := lt_drop hd2
        rw [len_list] at hlt
        refine iteTT (by omega) ?_
        refine ⟨_, rfl, _, rfl, z, _, c, rfl, rfl, by omega, by omega, by omega, by rw [show ((i : Int) + ((dg t.top).length : Int)).toNat = i + (dg t.top).length by omega, at_list]; exact at_drop hd2, ?_⟩
        refine ⟨rfl, _, rfl, ?_⟩
        refine iteFF (fun z9 => ?_) (plain est)
        have c47 := (chr_iff stroke_is).mp z9
        exact hst est (by rw [c47]; rfl)
    | true =>
      rw [est, if_pos rfl] at hd2
      have hd3 : z.cps.toList.drop (i + (dg t.top).length) = 47 :: (dg t.low ++ r) := hd2
      have hlt := lt_drop hd3
      rw [len_list] at hlt
      refine iteTT (by omega) ?_
      refine ⟨_, rfl, _, rfl, z, _, 47, rfl, rfl, by omega, by omega, by omega, by rw [show ((i : Int) + ((dg t.top).length : Int)).toNat = i + (dg t.top).length by omega, at_list]; exact at_drop hd3, ?_⟩
      refine ⟨rfl, _, rfl, ?_⟩
      refine iteTT ((chr_iff stroke_is).mpr rfl) ?_
      have hd4 : z.cps.toList.drop (i + (dg t.top).length + 1) = dg t.low ++ r := drop_one hd3
      have e2 : run isD z.cps.toList (i + (dg t.top).length + 1) = (dg t.low).length := run_of hd4 (dg_isD _) hs
      have l2 := dg_len12' ht
      have hil2 : i + (dg t.top).length + 1 + (dg t.low).length ≤ 90000 := by
        have e : (z.cps.toList.drop (i + (dg t.top).length + 1)).length = (dg t.low ++ r).length := by rw [hd4]
        rw [List.length_drop, len_list, List.length_append] at e
        omega
      refine ⟨_, rfl, _, rfl, _, _, rfl, rfl, z, i + (dg t.top).length + 1, (by show [V.str z, V.int ((i : Int) + ((dg t.top).length : Int) + 1)] = _; rw [show ((i : Int) + ((dg t.top).length : Int) + 1) = ((i + (dg t.top).length + 1 : Nat) : Int) by omega]), by omega, by omega, ?_⟩
      rw [e2]
      refine ⟨_, rfl, _, _, rfl, rfl, _, rfl, ?_⟩
      refine iteFF (by omega) ?_
      refine ⟨_, rfl, _, _, rfl, rfl, _, rfl, ?_⟩
      refine iteFF (by omega) ?_
      have cu2 := cut_is (z := z) (a := (i : Int) + ((dg t.top).length : Int) + 1) (b := (i : Int) + ((dg t.top).length : Int) + 1 + ((dg t.low).length : Int)) (i := i + (dg t.top).length + 1) (by omega) (by omega) hd4 (dg_ne _)
      obtain ⟨n3, n4⟩ := num_int cu2 (by have := l2.2; rw [dg_len] at this; omega)
      refine ⟨_, rfl, _, rfl, _, _, rfl, rfl, _, rfl, _, rfl, _, _, rfl, rfl, _, rfl, _, _, rfl, rfl, _, rfl, z, rfl, small_line (by omega), ?_⟩
      refine ⟨_, _, rfl, n3, n4, rfl, _, rfl, ?_⟩
      have low1 := ht.low1
      have low2 := ht.low2
      refine iteFF (fun z9 => ?_) ?_
      · have z8 := V.int.inj z9
        omega
      refine ⟨_, rfl, _, rfl, _, rfl, _, _, rfl, rfl, _, rfl, _, rfl, _, _, rfl, rfl, _, rfl, _, _, rfl, rfl, _, rfl, z, rfl, small_line (by omega), ?_⟩
      refine ⟨_, _, rfl, n3, n4, (t.top : Int), (t.low : Int), rfl, by omega, Nat.lt_of_le_of_lt (show ((t.low : Int)).natAbs ≤ 10000 by omega) (by decide +kernel), fun H1 p1 s1 f1 => ?_⟩
      refine ⟨_, rfl, _, _, rfl, rfl, _, rfl, _, _, rfl, rfl, (by show 2 ≤ sizeLine; decide), fun p hp => ?_⟩
      have en : t.num.length = (dg t.top).length + 1 + (dg t.low).length := by
        unfold Tm.num
        rw [est, if_pos rfl, List.length_append, List.length_cons]
        omega
      have ev : t.nval = fr (t.top : Int) (t.low : Int) := by
        unfold Tm.nval
        rw [est, if_pos rfl]
      refine k _ p p1 (s1.trans (same_new hp)) ?_ ?_
      · rw [upd_same, en, show ((i + ((dg t.top).length + 1 + (dg t.low).length) : Nat) : Int) = (i : Int) + ((dg t.top).length : Int) + 1 + ((dg t.low).length : Int) by omega]
      · rw [ev]
        exact f1.mono (same_new hp)
theorem scReadPar : FnScope ["names", "text", "start", "many", "name"] ["names", "text", "start"] (defScope sReadPar) := ⟨rfl, rfl, rfl, by decide +kernel, rfl, by decide +kernel, by decide +kernel⟩
theorem str_ext {a b : Str} (h : a.cps.toList = b.cps.toList) : a = b := by
  obtain ⟨⟨x⟩⟩ := a
  obtain ⟨⟨y⟩⟩ := b
  have e : x = y := h
  rw [e]
theorem flat_names (names : List Str) : (names.map V.str).all flatV = true := by
  rw [List.all_eq_true]
  intro x hx
  obtain ⟨a, _, e⟩ := List.mem_map.mp hx
  rw [← e]
  rfl
theorem name_in {names : List Str} {k : Nat} {a : Str} (h : names[k]? = some a) : inV (.str a) (names.map V.str) = true := by
  unfold inV
  rw [List.any_eq_true]
  exact ⟨.str a, List.mem_map.mpr ⟨a, List.mem_of_getElem? h, rfl⟩, by show (a == a) = true; exact beq_self_eq_true a⟩
def spReadPar (K : PySem.W.Frag) : Sp := fun vs H Q _ => ∃ (nm : Addr) (z : Str) (i k : Nat) (names : List Str) (a : Str) (r : List Nat), vs = [.ref nm, .str z, .int (i : Int)] ∧ SqL K H nm (names.map V.str) ∧ NamesOk names ∧ names.length ≤ 10 ∧
  names[k]? = some a ∧ z.length ≤ 90000 ∧ z.cps.toList.drop i = a.cps.toList ++ r ∧ Stop isN r ∧
  ∀ H' p q, Same H H' → H' p = some (.tup [.ref q, .int ((i + a.cps.toList.length : Nat) : Int)]) → IsVal H' q ((0, 1) :: (zeros names.length).set k (1, 1)) → Q (.ref p) H'
theorem ok_readPar {f fc fp : Addr} {fd fdc fdp : FuncData} (F : Fun K "read_parameter" "read_parameter" sReadPar f fd) (GC : FnOk P w K mg base CX0 1 fc fdc ["text", "start"] spCountN) (cC : CallF K mg "count_name" fc fdc ["text", "start"])
    (GP : FnOk P w K mg base CX0 1 fp fdp ["at", "many"] spParameter) (cP : CallF K mg "parameter" fp fdp ["at", "many"]) (ml : mg "len" = none) : FnOk P w K mg base CX0 2 f fd ["names", "text", "start"] (spReadPar K) := by
  refine F.ok scReadPar (fun vs H Q E h => ?_) (fun cdv A outer s H vs Q E hr h => ?_)
  · obtain ⟨nm, z, i, k, names, a, r, rfl, _⟩ := h
    rfl
  · obtain ⟨nm, z, i, k, names, a, r, rfl, hS, hN, h10, hk, hz, hd, hs, q⟩ := h
    obtain ⟨c0, r0, ea, _, _⟩ := hN.sg k a hk
    have hal : 1 ≤ a.cps.toList.length := by rw [ea, List.length_cons]; omega
    have hil : i + a.cps.toList.length ≤ 90000 := by
      have e : (z.cps.toList.drop i).length = (a.cps.toList ++ r).length := by rw [hd]
      rw [List.length_drop, len_list, List.length_append] at e
      omega
    refine ⟨_, pss_cons (ps_set (i := 3) scReadPar.nd rfl (.inl rfl) (pe_call GC hr (by rfl) cC.gl cC.kp cC.bd .nil pass0 (pa_cons (pv 1) (pa_cons (pv 2) pa_nil))))
      (pss_cons (ps_set (i := 4) scReadPar.nd rfl (.inl rfl) (pe_slice sl_str (pv 1) (po_some (pv 2)) (po_some (pe_op op_add (pv 2) (pv 3)))))
      (pss_cons (ps_if (PW.pt (pw_or (pt_cmpR op_lt (pv 3) pe_int (nomark _)) (pw_or1 (pt_cmpR op_notIn_seq (pv 4) (pv 0) (by rfl))))) pss_never pss_nil)
      (pss_one (ps_ret (pe_tup (pa_cons (pe_call GP hr (by rfl) cP.gl cP.kp cP.bd .nil pass0 (pa_cons (pe_bm PySem.F.plainAttrs_list PySem.F.slot_list_index PySem.F.type_list_index mt_index (pv 0) (pa_cons (pv 4) pa_nil))
          (pa_cons (pe_callB call_len_seq (by rfl) ml PySem.boot_len (pa_cons (pv 0) pa_nil)) pa_nil))) (pa_cons (pe_op op_add (pv 2) (pv 3)) pa_nil))))))), ?_⟩
    refine ⟨_, rfl, _, rfl, z, i, rfl, by omega, by omega, ?_⟩
    rw [run_of hd (nm_all hN hk) hs]
    refine ⟨_, rfl, _, rfl, _, rfl, _, rfl, _, rfl, _, _, rfl, rfl, _, rfl, z, rfl, small_line (by omega), ?_⟩
    have cu := cut_is (z := z) (a := (i : Int)) (b := (i : Int) + (a.cps.toList.length : Int)) rfl (by omega) hd (by rw [ea]; exact List.cons_ne_nil _ _)
    rw [str_ext cu]
    refine ⟨_, rfl, _, _, rfl, rfl, _, rfl, ?_⟩
    refine iteFF (by omega) ?_
    refine ⟨_, rfl, _, rfl, nm, _, rfl, .inl hS, rfl, flat_names names, _, rfl, ?_⟩
    rw [name_in hk]
    refine iteF ?_
    refine ⟨_, rfl, .inl ⟨rfl, _, hS⟩, _, rfl, nm, _, _, k, .str a, rfl, rfl, hS, rfl, flat_names names, (by rw [List.getElem?_map, hk]; rfl), (by show (a == a) = true; exact beq_self_eq_true a), fun m z' hm hz' => ?_, ?_⟩
    · rw [List.getElem?_map] at hz'
      cases e : names[m]? with
      | none =>
        rw [e] at hz'
        cases hz'
      | some b =>
        rw [e] at hz'
        have eb : V.str b = z' := Option.some.inj hz'
        rw [← eb]
        show (b == a) = false
        refine beq_eq_false_iff_ne.mpr fun z9 => ?_
        rw [z9] at e
        have := hN.inj m k a e hk
        omega
    refine ⟨_, rfl, nm, _, rfl, .inl hS, k, names.length, (by rw [List.length_map]; rfl), (List.getElem?_eq_some_iff.mp hk).1, h10, fun H1 p1 s1 f1 => ?_⟩
    refine ⟨_, rfl, _, rfl, _, _, rfl, rfl, (by show 2 ≤ sizeLine; decide), fun p hp => ?_⟩
    refine q _ p p1 (s1.trans (same_new hp)) ?_ (f1.same (same_new hp))
    rw [upd_same, Int.natCast_add]
theorem scReadTerm : FnScope ["names", "text", "start", "factor", "behind", "star", "found"] ["names", "text", "start"] (defScope sReadTerm) := ⟨rfl, rfl, rfl, by decide +kernel, rfl, by decide +kernel, by decide +kernel⟩
def spReadTerm (K : PySem.W.Frag) : Sp := fun vs H Q _ => ∃ (nm : Addr) (z : Str) (i : Nat) (names : List Str) (t : Tm) (r : List Nat), vs = [.ref nm, .str z, .int (i : Int)] ∧ SqL K H nm (names.map V.str) ∧ NamesOk names ∧ names.length ≤ 8 ∧
  t.Ok names.length ∧ z.length ≤ 90000 ∧ z.cps.toList.drop i = t.text names ++ r ∧ Follow r ∧
  ∀ H' p q, Same H H' → H' p = some (.tup [.ref q, .int ((i + (t.text names).length : Nat) : Int)]) → IsVal H' q (oneAt names.length t.place t.val) → Q (.ref p) H'
theorem zeros_cons (n : Nat) : zeros (n + 1) = (0, 1) :: zeros n := List.replicate_succ
theorem one_const (n : Nat) (f : Q2) : f :: zeros n = oneAt n 0 f := by
  unfold oneAt
  rw [zeros_cons]
  rfl
theorem one_par (n k : Nat) (f : Q2) : (0, 1) :: (zeros n).set k f = oneAt n (k + 1) f := by
  unfold oneAt
  rw [zeros_cons]
  rfl
theorem one_scale {n k : Nat} {f : Q2} (h : Can f) : (oneAt n k (1, 1)).map (timesQ f) = oneAt n k f := by
  unfold oneAt
  rw [List.map_set, times_one h]
  congr 1
  unfold zeros
  rw [List.map_replicate, times_zero h.pos]
theorem one_sz {n k : Nat} : ∀ q ∈ oneAt n k (1, 1), Sz 3000 q := fun q hq => by
  rcases List.mem_or_eq_of_mem_set hq with z | z
  · rw [(List.mem_replicate.mp z).2]
    exact zero_sz.mono (by decide)
  · rw [z]
    exact Sz.mono (B := 1) ⟨by decide, by decide, by decide⟩ (by decide)
theorem star_is : ("*" : Str) = ⟨#[42]⟩ := by decide +kernel
theorem ok_readTerm {f fp fn fk fs fo : Addr} {fd fdp fdn fdk fds fdo : FuncData} {tk : Tok} (F : Fun K "read_term" "read_term" sReadTerm f fd) (GP : FnOk P w K mg base CX0 2 fp fdp ["names", "text", "start"] (spReadPar K)) (cP : CallF K mg "read_parameter" fp fdp ["names", "text", "start"])
    (GN : FnOk P w K mg base CX0 3 fn fdn ["text", "start"] spReadNum) (cN : CallF K mg "read_number" fn fdn ["text", "start"]) (GK : FnOk P w K mg base CX0 1 fk fdk ["text", "start"] spSkip) (cK : CallF K mg "skip_blanks" fk fdk ["text", "start"])
    (GS : FnOk P w K mg base CX0 4 fs fds ["factor", "a"] spScale) (cS : CallF K mg "scale" fs fds ["factor", "a"]) (GO : FnOk P w K mg base CX0 1 fo fdo ["base", "many"] spConstant) (cO : CallF K mg "constant" fo fdo ["base", "many"])
    (ml : mg "len" = none) (mD : mg "DIGITS" = some (.str strD tk)) : FnOk P w K mg base CX0 5 f fd ["names", "text", "start"] (spReadTerm K) := by
  refine F.ok scReadTerm (fun vs H Q E h => ?_) (fun cdv A outer s H vs Q E hr h => ?_)
  · obtain ⟨nm, z, i, names, t, r, rfl, _⟩ := h
    rfl
  · obtain ⟨nm, z, i, names, t, r, rfl, hS, hN, h8, ht, hz, hd, hf, q⟩ := h
    have hr1 : Room 1 _ := hr.mono (by decide)
    have hr2 : Room 2 _ := hr.mono (by decide)
    have hr3 : Room 3 _ := hr.mono (by decide)
    obtain ⟨c0, r0, et, hc0⟩ := Tm.head hN ht
    have hd0 : z.cps.toList.drop i = c0 :: (r0 ++ r) := by rw [hd, et]; rfl
    have hlt := lt_drop hd0
    rw [len_list] at hlt
    refine ⟨_, pss_cons (ps_if (PW.pt (pw_or (pt_cmpR op_ge (pv 2) (pe_callB call_len_str (by rfl) ml PySem.boot_len (pa_cons (pv 1) pa_nil)) (nomark _)) (pw_or1 (pt_cmpR op_notIn_sign (pe_item_str (pv 1) (pv 2) (fun _ _ => rfl)) (pe_glob (v := .str strD) rfl mD ⟨_, rfl⟩) (by rfl)))))
        (pss_one (ps_ret (pe_call GP hr2 (by rfl) cP.gl cP.kp cP.bd .nil pass0 (pa_cons (pv 0) (pa_cons (pv 1) (pa_cons (pv 2) pa_nil)))))) pss_nil)
      (pss_cons (ps_asg (pe_call GN hr3 (by rfl) cN.gl cN.kp cN.bd .nil pass0 (pa_cons (pv 1) (pa_cons (pv 2) pa_nil))) (pg_tup (by rfl) (pgs_cons (pg_name (i := 3) scReadTerm.nd rfl (.inl rfl)) (pgs_cons (pg_name (i := 4) scReadTerm.nd rfl (.inl rfl)) pgs_nil))))
      (pss_cons (ps_set (i := 5) scReadTerm.nd rfl (.inl rfl) (pe_call GK hr1 (by rfl) cK.gl cK.kp cK.bd .nil pass0 (pa_cons (pv 1) (pa_cons (pv 4) pa_nil))))
      (pss_cons (ps_if (PW.pt (pw_and (pt_cmpR op_lt (pv 5) (pe_callB call_len_str (by rfl) ml PySem.boot_len (pa_cons (pv 1) pa_nil)) (nomark _)) (pw_and1 (pt_cmpR op_eq (pe_item_str (pv 1) (pv 5) (fun _ _ => rfl)) pe_str (nomark _)))))
        (pss_cons (ps_asg (pe_call GP hr2 (by rfl) cP.gl cP.kp cP.bd .nil pass0 (pa_cons (pv 0) (pa_cons (pv 1) (pa_cons (pe_call GK hr1 (by rfl) cK.gl cK.kp cK.bd .nil pass0 (pa_cons (pv 1) (pa_cons (pe_op op_add (pv 5) pe_int) pa_nil))) pa_nil))))
            (pg_tup (by rfl) (pgs_cons (pg_name (i := 6) scReadTerm.nd rfl (.inl rfl)) (pgs_cons (pg_name (i := 4) scReadTerm.nd rfl (.inl rfl)) pgs_nil))))
        (pss_one (ps_ret (pe_tup (pa_cons (pe_call GS hr (by rfl) cS.gl cS.kp cS.bd .nil pass0 (pa_cons (pv 3) (pa_cons (pv 6) pa_nil))) (pa_cons (pv 4) pa_nil)))))) pss_nil)
      (pss_one (ps_ret (pe_tup (pa_cons (pe_call GO hr1 (by rfl) cO.gl cO.kp cO.bd .nil pass0 (pa_cons (pv 3) (pa_cons (pe_callB call_len_seq (by rfl) ml PySem.boot_len (pa_cons (pv 0) pa_nil)) pa_nil))) (pa_cons (pv 4) pa_nil)))))))), ?_⟩
    -- if start >= len(text) or text[start] not in DIGITS
    refine ⟨_, rfl, _, rfl, z, rfl, small_line (by omega), _, _, rfl, rfl, _, rfl, ?_⟩
    refine iteFF (by omega) ?_
    refine ⟨_, rfl, _, rfl, z, _, c0, rfl, rfl, by omega, by omega, by omega, by rw [Int.toNat_natCast, at_list]; exact at_drop hd0, ?_⟩
    refine ⟨c0, strD, rfl, rfl, _, rfl, ?_⟩
    rw [strD_codes]
    have hpl := ht.pl
    by_cases hb : t.place ≠ 0 ∧ t.bare = true
    · -- the name alone
      obtain ⟨a, ha⟩ := nm_is (names := names) (k := t.place - 1) (by omega)
      have etx : t.text names = a.cps.toList := by
        unfold Tm.text
        rw [if_neg hb.1, if_pos hb.2, nm_at ha]
      obtain ⟨c1, r1, ea, hL, _⟩ := hN.sg _ a ha
      have ec : c0 = c1 := by
        rw [etx, ea] at et
        injection et with e1 _
        exact e1.symm
      have hnd : ¬ c0 ∈ digL := fun z9 => by
        have z8 : isD c1 = true := by
          rw [← ec]
          exact decide_eq_true z9
        have z7 := isD_iff.mp z8
        have z6 := isL_iff.mp hL
        omega
      rw [decide_eq_false hnd]
      refine iteT ?_
      rw [etx] at hd
      refine ⟨_, rfl, _, rfl, _, rfl, nm, z, i, t.place - 1, names, a, r, rfl, hS, hN, by omega, ha, hz, hd, hf.stopN, fun H1 p1 q1 s1 e1 f1 => ?_⟩
      refine q _ p1 q1 s1 (by rw [etx]; exact e1) ?_
      rw [one_par] at f1
      have e2 : t.place - 1 + 1 = t.place := by omega
      have e3 : t.val = (1, 1) := by
        unfold Tm.val
        rw [if_pos hb]
      rw [e2] at f1
      rw [e3]
      exact f1
    · -- a number first
      have ev : t.val = t.nval := by
        unfold Tm.val
        rw [if_neg hb]
      obtain ⟨u, eu, su, nu⟩ : ∃ u, t.text names = t.num ++ u ∧ Stop isD (u ++ r) ∧ (u ++ r).head? ≠ some 47 := by
        unfold Tm.text
        by_cases h0 : t.place = 0
        · rw [if_pos h0]
          exact ⟨[], (List.append_nil _).symm, hf.stopD, hf.noStroke⟩
        · have hnb : ¬ t.bare = true := fun z9 => hb ⟨h0, z9⟩
          rw [if_neg h0, if_neg hnb]
          refine ⟨_, rfl, ?_, ?_⟩
          · rw [List.append_assoc, List.cons_append]
            exact star_stopD _ _
          · rw [List.append_assoc, List.cons_append]
            exact star_noStroke _ _
      have hyd : c0 ∈ digL := by
        obtain ⟨c1, r1, en, hd1⟩ := t.num_head
        rw [eu, en] at et
        have ec : c1 = c0 := by
          injection et
        rw [← ec]
        exact of_decide_eq_true hd1
      rw [decide_eq_true hyd]
      refine iteF ?_
      have hd1 : z.cps.toList.drop i = t.num ++ (u ++ r) := by rw [hd, eu, List.append_assoc]
      have hil : i + t.num.length + u.length ≤ 90000 := by
        have e : (z.cps.toList.drop i).length = (t.num ++ (u ++ r)).length := by rw [hd1]
        rw [List.length_drop, len_list, List.length_append, List.length_append] at e
        have : 1 ≤ t.num.length := by
          obtain ⟨c1, r1, en, _⟩ := t.num_head
          rw [en, List.length_cons]
          omega
        omega
      refine ⟨_, rfl, _, rfl, z, i, names.length, t, u ++ r, rfl, hz, ht, hd1, su, fun _ => nu, fun H1 p1 q1 s1 e1 f1 => ?_⟩
      refine ⟨p1, _, rfl, .inl (.inl e1), rfl, _, _, rfl, _, _, rfl, rfl, ?_⟩
      -- star = skip_blanks(text, behind)
      refine ⟨_, rfl, _, rfl, z, i + t.num.length, rfl, by omega, by omega, ?_⟩
      have hd2 : z.cps.toList.drop (i + t.num.length) = u ++ r := drop_more hd1
      have S1 : SqL K H1 nm (names.map V.str) := s1.seq hS
      by_cases h0 : t.place = 0
      · -- no star: constant(factor, len(names))
        have u0 : u = [] := by
          unfold Tm.text at eu
          rw [if_pos h0] at eu
          exact (List.append_right_eq_self.mp eu.symm)
        subst u0
        rw [List.nil_append] at hd2
        have fin : tRet (tTup (tCons (tCall spConstant [] E0 (tCons (tVar 3) (tCons (tCB (fun xs H Q => ∃ p ys, xs = [.ref p] ∧ (SqL K H p ys ∨ SqT K H p ys) ∧ Q (.int ys.length) H) (tCons (tVar 0) tNil)) tNil))) (tCons (tVar 4) tNil)))
            { nx := fun _ H' => Q .non H', rt := Q } [some (.ref nm), some (.str z), some (.int (i : Int)), some (.ref q1), some (.int ((i + t.num.length : Nat) : Int)), some (.int ((i + t.num.length + run isB z.cps.toList (i + t.num.length) : Nat) : Int)), none] H1 := by
          refine ⟨_, rfl, _, rfl, nm, _, rfl, .inl S1, q1, names.length, t.nval, (by rw [List.length_map]; rfl), f1, by omega, fun H2 p2 s2 f2 => ?_⟩
          refine ⟨_, rfl, (by show 2 ≤ sizeLine; decide), fun p hp => ?_⟩
          refine q _ p p2 ((s1.trans s2).trans (same_new hp)) ?_ ?_
          · rw [upd_same, eu, List.append_nil]
          · rw [ev, h0, ← one_const]
            exact f2.same (same_new hp)
        have hno := hf.no
        refine ⟨_, rfl, _, rfl, z, rfl, small_line (by omega), _, _, rfl, rfl, _, rfl, ?_⟩
        have hrb : run isB z.cps.toList (i + t.num.length) = run isB r 0 := by
          unfold run
          rw [hd2]
          rfl
        rw [hrb] at fin ⊢
        have hd3 : z.cps.toList.drop (i + t.num.length + run isB r 0) = r.drop (run isB r 0) := by rw [← List.drop_drop, hd2]
        cases hrest : r.drop (run isB r 0) with
        | nil =>
          rw [hrest] at hd3
          have hge := ge_drop hd3
          rw [len_list] at hge
          refine iteFF (by omega) ?_
          exact fin
        | cons c2 r2 =>
          rw [hrest] at hd3
          have hlt3 := lt_drop hd3
          rw [len_list] at hlt3
          refine iteTT (by omega) ?_
          refine ⟨_, rfl, _, rfl, z, _, c2, rfl, rfl, by omega, by omega, by omega, by rw [Int.toNat_natCast, at_list]; exact at_drop hd3, ?_⟩
          refine ⟨rfl, _, rfl, ?_⟩
          refine iteFF (fun z9 => ?_) fin
          have c42 := (chr_iff star_is).mp z9
          exact hno c2 (by rw [hrest]; rfl) c42
      · -- a star, then the parameter
        have hnb : ¬ t.bare = true := fun z9 => hb ⟨h0, z9⟩
        obtain ⟨a, ha⟩ := nm_is (names := names) (k := t.place - 1) (by omega)
        have ue : u = bk t.bl ++ 42 :: (bk t.bl ++ a.cps.toList) := by
          unfold Tm.text at eu
          rw [if_neg h0, if_neg hnb, nm_at ha] at eu
          exact (List.append_cancel_left eu).symm
        subst ue
        have hd2' : z.cps.toList.drop (i + t.num.length) = bk t.bl ++ (42 :: (bk t.bl ++ (a.cps.toList ++ r))) := by
          rw [hd2, List.append_assoc, List.cons_append, List.append_assoc]
        rw [run_of hd2' (bk_blank _) (star_stopB _)]
        have hd3 : z.cps.toList.drop (i + t.num.length + (bk t.bl).length) = 42 :: (bk t.bl ++ (a.cps.toList ++ r)) := drop_more hd2'
        have hlt3 := lt_drop hd3
        rw [len_list] at hlt3
        have hd4 : z.cps.toList.drop (i + t.num.length + (bk t.bl).length + 1) = bk t.bl ++ (a.cps.toList ++ r) := drop_one hd3
        have hd5 : z.cps.toList.drop (i + t.num.length + (bk t.bl).length + 1 + (bk t.bl).length) = a.cps.toList ++ r := drop_more hd4
        have er := run_of hd4 (bk_blank _) (nm_stopB hN ha r)
        refine ⟨_, rfl, _, rfl, z, rfl, small_line (by omega), _, _, rfl, rfl, _, rfl, ?_⟩
        refine iteTT (by omega) ?_
        refine ⟨_, rfl, _, rfl, z, _, 42, rfl, rfl, by omega, by omega, by omega, by rw [Int.toNat_natCast, at_list]; exact at_drop hd3, ?_⟩
        refine ⟨rfl, _, rfl, ?_⟩
        refine iteTT ((chr_iff star_is).mpr rfl) ?_
        refine ⟨_, rfl, _, rfl, _, rfl, _, rfl, _, _, rfl, rfl, z, i + t.num.length + (bk t.bl).length + 1, (by show [V.str z, V.int (((i + t.num.length + (bk t.bl).length : Nat) : Int) + 1)] = _; rw [show (((i + t.num.length + (bk t.bl).length : Nat) : Int) + 1) = ((i + t.num.length + (bk t.bl).length + 1 : Nat) : Int) by omega]), by omega, by omega, ?_⟩
        rw [er]
        refine ⟨nm, z, _, t.place - 1, names, a, r, rfl, S1, hN, by omega, ha, hz, hd5, hf.stopN, fun H2 p2 q2 s2 e2 f2 => ?_⟩
        refine ⟨p2, _, rfl, .inl (.inl e2), rfl, _, _, rfl, _, _, rfl, rfl, ?_⟩
        rw [one_par] at f2
        have epl : t.place - 1 + 1 = t.place := by omega
        rw [epl] at f2
        refine ⟨_, rfl, _, rfl, q1, q2, t.nval, _, rfl, f1.mono s2, f2, by rw [oneAt_len]; omega, (Tm.nval_sz ht).mono (by decide), one_sz, fun H3 p3 s3 f3 => ?_⟩
        rw [one_scale (Tm.nval_can ht)] at f3
        refine ⟨_, rfl, (by show 2 ≤ sizeLine; decide), fun p hp => ?_⟩
        refine q _ p p3 (((s1.trans s2).trans s3).trans (same_new hp)) ?_ ?_
        · rw [upd_same, eu, List.length_append, List.length_append, List.length_cons, List.length_append]
          rw [show ((i + (t.num.length + ((bk t.bl).length + ((bk t.bl).length + a.cps.toList.length + 1))) : Nat) : Int) = ((i + t.num.length + (bk t.bl).length + 1 + (bk t.bl).length + a.cps.toList.length : Nat) : Int) by omega]
        · rw [ev]
          exact f3.same (same_new hp)
end
end Tp
/-! is_short: its generator expression makes a code object, the table may grow. -/
namespace Tp
open PySem PySem.Spec PyProof.Rows L2
/-- all but tables is as it was -/
def SameN (H H' : Hp) : Prop := ∀ b o, (∀ ps, o ≠ .tbl ps) → H b = some o → H' b = some o
theorem Same.n {H H' : Hp} (s : Same H H') : SameN H H' := fun b o _ e => s b o e
theorem SameN.refl (H : Hp) : SameN H H := fun _ _ _ e => e
theorem SameN.trans {H H1 H2 : Hp} (s : SameN H H1) (t : SameN H1 H2) : SameN H H2 := fun b o n e => t b o n (s b o n e)
theorem SameN.fr {H H' : Hp} (s : SameN H H') {a : Addr} {q : Q2} (h : IsFr H a q) : IsFr H' a q := s _ _ (fun ps z => by cases z) h
theorem SameN.frs {H H' : Hp} (s : SameN H H') {as : List Addr} {qs : List Q2} (h : FrsAt H as qs) : FrsAt H' as qs := h.mono fun b xs e => s _ _ (fun ps z => by cases z) e
theorem SameN.tup {H H' : Hp} (s : SameN H H') {a : Addr} {xs : List V} (h : H a = some (.tup xs)) : H' a = some (.tup xs) := s _ _ (fun ps z => by cases z) h
theorem SameN.lst {H H' : Hp} (s : SameN H H') {a : Addr} {xs : List V} (h : H a = some (.lst xs)) : H' a = some (.lst xs) := s _ _ (fun ps z => by cases z) h
theorem SameN.val {H H' : Hp} (s : SameN H H') {a : Addr} {v : List Q2} (h : IsVal H a v) : IsVal H' a v := by
  obtain ⟨b, c, q, qs, e, e1, e2, as, e3, e4⟩ := h
  exact ⟨b, c, q, qs, e, s.tup e1, s.fr e2, as, s.tup e3, s.frs e4⟩
theorem SameN.seq {K : PySem.W.Frag} {H H' : Hp} (s : SameN H H') {a : Addr} {xs : List V} (h : SqL K H a xs) : SqL K H' a xs := by
  rcases h with (h | ⟨o, h⟩) | h
  · exact .inl (.inl (s.lst h))
  · exact .inl (.inr ⟨o, s _ _ (fun ps z => by cases z) h⟩)
  · exact .inr h
theorem tabbed_n {P : Addr} {H H' : Hp} (hT : GxR.TabG H P) (t : GxR.Tabbed P H H') : SameN H H' := fun b o n e => by
  obtain ⟨ps, hp, _⟩ := hT
  have nb : b ≠ P := fun z => by
    rw [z, hp] at e
    exact n ps (Option.some.inj e).symm
  rw [t.2 b nb]
  exact e
theorem TabG.same {P : Addr} {H H' : Hp} (s : Same H H') (hT : GxR.TabG H P) : GxR.TabG H' P := by
  obtain ⟨ps, hp, ht⟩ := hT
  exact ⟨ps, s _ _ hp, ht⟩
/-- a def that stands with the code object c -/
structure FunC (K : PySem.W.Frag) (x qual : Str) (st : Stmt) (f c : Addr) (fd : FuncData) : Prop where
  ex : ∃ (oc : Value) (od : Option Addr) (kV doc pm : Value) (an : Option Addr) (ct : Value) (osl : Array (Option Value)),
    fd = PySem.W.fnOf x qual (defArgs st) (defBody st) (defScope st) .none kV doc pm an (.ref c) ct ∧ K.lookup f = some ⟨oc, od, .func fd, osl⟩ ∧ PySem.W.codeIn K (.ref c) qual = true
def spShort (T : Addr) : Sp := fun vs H Q _ => ∃ (a : Addr) (v : List Q2), vs = [.ref a] ∧ IsVal H a v ∧ v.length ≤ 6 ∧ (∀ q ∈ v, Sz 350 q) ∧ GxR.TabG H T ∧ ∀ H', SameN H H' → GxR.TabG H' T → Q (.bl (shortV v)) H'
section
variable {P : Program} {w : World} {K : PySem.W.Frag} {mg : Str → Option Value} {base : Heap}
theorem scShort : FnScope ["found", "row", "one", "below", "limit"] ["found"] (defScope sShort) := ⟨rfl, rfl, rfl, by decide +kernel, rfl, by decide +kernel, by decide +kernel⟩
theorem below_at {v : List Q2} (hl : v.length ≤ 6) (hs : ∀ q ∈ v, Sz 350 q) (i : Nat) : 0 < belowV (v.take i) ∧ (belowV (v.take i)).natAbs < 2 ^ 2200 := by
  obtain ⟨h1, h2⟩ := below_sz (C := 350) (v.take i) 1 1 (by decide) (by decide) fun q hq => ⟨(hs q (List.mem_of_mem_take hq)).p, (hs q (List.mem_of_mem_take hq)).d⟩
  refine ⟨h1, Nat.lt_of_lt_of_le h2 (Nat.pow_le_pow_right (by decide) ?_)⟩
  rw [List.length_take]
  omega
theorem ok_short {f fc c T : Addr} {fd fdc : FuncData} (F : FunC K "is_short" "is_short" sShort f c fd) (GC : FnOk P w K mg base CX0 1 fc fdc ["a", "b"] spCommon) (cC : CallF K mg "common" fc fdc ["a", "b"])
    (TB : GxR.TabB base mg c T) (mli : mg "list" = none) (mall : mg "all" = none) (mabs : mg "abs" = none) : FnOk P w K mg base CX0 2 f fd ["found"] (spShort T) := by
  obtain ⟨oc, od, kV, doc, pm, an, ct, osl, rfl, lk, hcd⟩ := F.ex
  refine fn_of lk hcd scShort (fun vs H Q E h => ?_) fun A outer s H vs Q E hr h => ?_
  · obtain ⟨a, v, rfl, _⟩ := h
    rfl
  · obtain ⟨a, v, rfl, ⟨b1, b2, q, us, rfl, ea, qa, as, ea2, fa⟩, hl, hs, hT, k⟩ := h
    have G : GScope (cxOf CX0 P w K mg base ["found", "row", "one", "below", "limit"] "is_short" (defScope sShort) f (.ref c) A outer s H E).nox
        { kind := .function, names := [(".0", .local), ("one", .local), ("below", .free), ("limit", .free), ("abs", .globalImplicit)], isGenerator := true, isCoroutine := false, more := [] } := by
      refine ⟨⟨rfl, rfl, by decide +kernel, by decide +kernel, by decide +kernel, fun y hy e => ?_⟩, by decide +kernel, by decide +kernel, by decide +kernel, by decide +kernel, by decide +kernel, by rfl, by rfl⟩
      simp only [List.mem_cons, List.not_mem_nil, or_false] at hy
      rcases hy with rfl | rfl | rfl | rfl | rfl
      · cases e
      · cases e
      · exact cell_has (sc := defScope sShort) (by rfl)
      · exact cell_has (sc := defScope sShort) (by rfl)
      · cases e
    have body : ∃ t, PSs (cxOf CX0 P w K mg base ["found", "row", "one", "below", "limit"] "is_short" (defScope sShort) f (.ref c) A outer s H E).nox (defBody sShort) t ∧ t { nx := fun _ H' => Q .non H', rt := Q } (start ["found", "row", "one", "below", "limit"] [.ref a]) H := by
      refine ⟨_, pss_cons (ps_set (i := 1) scShort.nd rfl (.inl rfl) (pe_op op_cat (pe_lst (pa_cons (pe_ix ix_tup (pv 0) pe_int (fun _ _ => rfl)) pa_nil)) (pe_callTy call_list_of (by rfl) mli (by decide +kernel) (pa_cons (pe_ix ix_tup (pv 0) pe_int (fun _ _ => rfl)) pa_nil))))
        (pss_cons (ps_set (i := 3) scShort.nd rfl (.inr rfl) pe_int)
        (pss_cons (ps_for PassesOwn.never rfl (pi_list (pv 1)) (pg_name (i := 2) scShort.nd rfl (.inl rfl))
          (pss_one (ps_set (i := 3) scShort.nd rfl (.inr rfl) (pe_op op_fdivW (pe_op op_mulW (pv 3) (pe_ix ix_tup (pv 2) pe_int (fun _ _ => rfl))) (pe_call GC hr (by rfl) cC.gl cC.kp cC.bd .nil pass0 (pa_cons (pv 3) (pa_cons (pe_ix ix_tup (pv 2) pe_int (fun _ _ => rfl)) pa_nil)))))))
        (pss_cons (ps_set (i := 4) scShort.nd rfl (.inr rfl) (pe_op op_pow pe_int pe_int))
        (pss_one (ps_ret (pe_and (pe_cmpR op_lt (pv 3) (pv 4) (nomark _)) (pe_one (pe_allR hr (by rfl) mall (by decide +kernel) TB rfl G (pv 1) rfl rfl mabs (fun _ => rfl))))))))), ?_⟩
      refine ⟨_, rfl, a, _, _, _, rfl, rfl, .inl (.inl ea), val_at0, (by show 1 ≤ sizeLine; decide), fun l1 hl1 => ?_⟩
      have s1 : Same H (upd H l1 (.lst [.ref b1])) := same_new hl1
      refine ⟨_, rfl, a, _, _, _, rfl, rfl, .inl (.inl (s1 _ _ ea)), val_at1, b2, _, rfl, .inr (.inl (.inl (s1 _ _ ea2))), fun l2 hl2 => ?_⟩
      have s2 : Same (upd H l1 (.lst [.ref b1])) (upd (upd H l1 (.lst [.ref b1])) l2 (.lst (as.map V.ref))) := same_new hl2
      refine ⟨_, _, _, _, rfl, rfl, s2 _ _ upd_same, upd_same, ?_, fun r hr9 => ?_⟩
      · rw [List.length_map, fa.len]
        show 1 + us.length ≤ sizeLine
        have e6 : us.length ≤ 5 := Nat.le_of_succ_le_succ hl
        exact small_line (by omega)
      have s3 := s1.trans (s2.trans (same_new hr9 (o := .lst ([V.ref b1] ++ as.map V.ref))))
      have erow : ([V.ref b1] ++ as.map V.ref) = (b1 :: as).map V.ref := rfl
      rw [erow] at s3 ⊢
      generalize hH0 : upd (upd (upd H l1 (.lst [.ref b1])) l2 (.lst (as.map V.ref))) r (.lst ((b1 :: as).map V.ref)) = H0 at s3 ⊢
      have er : H0 r = some (.lst ((b1 :: as).map V.ref)) := by rw [← hH0]; exact upd_same
      have FA : FrsAt H0 (b1 :: as) (q :: us) := .cons (qa.mono s3) (fa.same s3)
      have R0 : SqL K H0 r ((b1 :: as).map V.ref) := .inl (.inl er)
      refine ⟨_, rfl, r, rfl, ⟨_, R0⟩, for_list (K := K) (a := r) (xs := (b1 :: as).map V.ref) (fun i σ H' => ∃ o, σ = [some (.ref a), some (.ref r), o, some (.int (belowV ((q :: us).take i))), none] ∧ H' = H0)
        ⟨none, rfl, rfl⟩ (fun i σ H' _ ⟨_, _, e⟩ => by rw [e]; exact R0) ?_ ?_⟩
      · rintro i x σ H' hx ⟨o, rfl, rfl⟩
        obtain ⟨ay, gay, rfl⟩ := ref_get hx
        obtain ⟨y, hy, fay⟩ := FA.back gay
        have hys := hs y (List.mem_of_getElem? hy)
        obtain ⟨hb1, hb2⟩ := below_at hl hs i
        have hg : (0 : Int) < (Int.gcd (belowV ((q :: us).take i)) y.2 : Int) := by have := gcd_pos (n := belowV ((q :: us).take i)) hys.p; omega
        refine ⟨_, rfl, _, rfl, ay, _, _, _, rfl, rfl, .inl (.inl fay), fr_at1, _, _, rfl, rfl, wide_mul hb2 hys.d (by decide) (by decide) (by decide), ?_⟩
        refine ⟨_, rfl, _, rfl, ay, _, _, _, rfl, rfl, .inl (.inl fay), fr_at1, _, _, rfl, ?_⟩
        refine ⟨_, _, rfl, rfl, wide_div hg (wide_le (by omega) (gcd_le hys.p) hys.d) (by decide) (by decide), ?_⟩
        refine ⟨some (.ref ay), ?_, rfl⟩
        rw [take_snoc hy, below_snoc]
        rfl
      · rintro σ H' ⟨o, rfl, rfl⟩
        obtain ⟨hb1, hb2⟩ := below_at hl hs (q :: us).length
        rw [List.length_map, FA.len, List.take_length] at *
        refine ⟨_, _, rfl, rfl, ⟨by decide, by decide, by decide⟩, ?_⟩
        refine ⟨_, rfl, _, rfl, _, _, rfl, rfl, _, rfl, ?_⟩
        have etn : (10 : Int) ^ (12 : Int).toNat = lim := by decide
        have hT0 : GxR.TabG H' T := TabG.same s3 hT
        by_cases hlt : belowV (q :: us) < lim
        · refine iteTT (show belowV (q :: us) < (10 : Int) ^ (12 : Int).toNat by rw [etn]; exact hlt) ?_
          refine ⟨_, rfl, b1 :: as, q :: us, belowV (q :: us), lim, ⟨⟨r, rfl, R0⟩, FA, rfl, (by show some (some (V.int ((10 : Int) ^ (12 : Int).toNat))) = _; rw [etn]), fun y hy => ?_⟩, hT0, fun H2 t2 => ?_⟩
          · have hys := hs y hy
            refine ⟨wide_div hys.p hys.d (by decide) (by decide), wide_mul (a := 350) (b := 2200) hys.n (Nat.lt_of_le_of_lt ?_ hb2) (by decide) (by decide) (by decide)⟩
            rw [Int.natAbs_ediv_of_nonneg (by omega)]
            exact Nat.div_le_self _ _
          · have e9 : (q :: us).all (pbR (belowV (q :: us)) lim) = shortV (q :: us) := by
              unfold shortV
              rw [decide_eq_true hlt, Bool.true_and]
              refine congrArg (fun g => List.all (q :: us) g) (funext fun y => ?_)
              unfold pbR absI
              rw [abs_eq]
              refine decide_eq_decide.mpr ?_
              have el : lim = 1000000000000 := rfl
              clear hb2
              omega
            rw [e9]
            exact k H2 ((Same.n s3).trans (tabbed_n hT0 t2)) t2.1
        · refine iteFF (show ¬ belowV (q :: us) < (10 : Int) ^ (12 : Int).toNat by rw [etn]; exact hlt) ?_
          have e9 : shortV (q :: us) = false := by
            unfold shortV
            rw [decide_eq_false hlt, Bool.false_and]
          rw [← e9]
          exact k H' (Same.n s3) hT0
    obtain ⟨t, ht, hq⟩ := body
    exact ⟨t, ht.nox, hq⟩
end
end Tp
/-! read_expression. -/
namespace Tp
open PySem PySem.Spec PyProof.Rows L2
/-- the error's class -/
structure ErrT (P : Program) (w : World) (K : PySem.W.Frag) (mg : Str → Option Value) (base : Heap) (C fI : Addr) (fdI : FuncData) : Prop where
  ox : OexC K C
  iC : PySem.W.findIn K (.ref C) "__init__" = some (some (.ref fI))
  tI : PySem.W.typeIn K (.ref fI) = some (.type "function")
  ok : FnOk P w K mg base CX0 2 fI fdI ["self", "line", "column"] (spInit C)
  bd : Binds K fdI ["self", "line", "column"] []
  gl : mg "TextFault" = some (.ref C)
def errFs : List (Str × V) := [("column", .int 1), ("line", .int 1)]
def spReadEx (K : PySem.W.Frag) (C T : Addr) : Sp := fun vs H Q E => ∃ (nm : Addr) (z : Str) (names : List Str) (lead : Bool) (its : List It), vs = [.ref nm, .str z] ∧ SqL K H nm (names.map V.str) ∧ NamesOk names ∧ names.length ≤ 5 ∧
  AllOk names.length its ∧ its ≠ [] ∧ its.length ≤ 9 ∧ z.length ≤ 80000 ∧ z.cps.toList = exT names lead its ∧ GxR.TabG H T ∧
  (shortV (vecOf names.length its) = true → ∀ H' p, SameN H H' → GxR.TabG H' T → IsVal H' p (vecOf names.length its) → Q (.ref p) H') ∧
  (shortV (vecOf names.length its) = false → ∀ H' d, SameN H H' → GxR.TabG H' T → H' d = some (.xd errFs) → E (.ref C) (some d) H')
/-- what the made error leaves -/
theorem err_heap {H1 : Hp} {a dx C : Addr} (ha : H1 a = none) (hd : H1 dx = none) (ne : dx ≠ a) :
    SameN H1 (upd (del (upd (upd (upd (upd H1 a (exo a C none)) dx (exd dx [("line", .int 1)])) a (exo a C (some dx))) dx (exd dx [("column", .int 1), ("line", .int 1)])) a) dx (.xd errFs)) := fun b o n e => by
  have nb : b ≠ a := ne_of_none e ha
  have nd : b ≠ dx := ne_of_none e hd
  rw [upd_ne nd, del_ne nb, upd_ne nd, upd_ne nb, upd_ne nd, upd_ne nb]
  exact e
theorem go_cons (names : List Str) (x : It) (r : List It) : goT names false (x :: r) = (if x.neg = true then 45 else 43) :: (bk x.sb ++ (x.t.text names ++ (bk x.eb ++ goT names false r))) := by
  have e : x.sign false = (if x.neg = true then 45 else 43) :: bk x.sb := if_neg (by simp)
  show (x.sign false ++ (x.t.text names ++ bk x.eb)) ++ goT names false r = _
  rw [e, List.cons_append, List.cons_append, List.append_assoc, List.append_assoc]
theorem one_sz2 {n : Nat} {x : It} (hx : x.t.Ok n) : ∀ q ∈ oneAt n x.t.place x.val, Sz 3000 q := fun q hq => by
  rcases List.mem_or_eq_of_mem_set hq with z | z
  · rw [(List.mem_replicate.mp z).2]
    exact zero_sz.mono (by decide)
  · rw [z]
    exact (It.val_sz hx).mono (by decide)
abbrev NEx : List Str := ["names", "text", "at", "turned", "found", "one"]
theorem pm_codes : ("+-" : Str).cps.toList = [43, 45] := by decide +kernel
theorem minus_is : ("-" : Str) = ⟨#[45]⟩ := by decide +kernel
section
variable {P : Program} {w : World} {K : PySem.W.Frag} {mg : Str → Option Value} {base : Heap}
theorem scReadEx : FnScope NEx ["names", "text"] (defScope sReadEx) := ⟨rfl, rfl, rfl, by decide +kernel, rfl, by decide +kernel, by decide +kernel⟩
theorem ok_readEx {f ft fk fo fa fs C fI T : Addr} {fd fdt fdk fdo fda fds fdI : FuncData} (F : Fun K "read_expression" "read_expression" sReadEx f fd) (GT : FnOk P w K mg base CX0 5 ft fdt ["names", "text", "start"] (spReadTerm K)) (cT : CallF K mg "read_term" ft fdt ["names", "text", "start"])
    (GK : FnOk P w K mg base CX0 1 fk fdk ["text", "start"] spSkip) (cK : CallF K mg "skip_blanks" fk fdk ["text", "start"]) (GO : FnOk P w K mg base CX0 2 fo fdo ["a"] spOpposite) (cO : CallF K mg "opposite" fo fdo ["a"])
    (GA : FnOk P w K mg base CX0 4 fa fda ["a", "b"] spAdd) (cA : CallF K mg "add" fa fda ["a", "b"]) (GS : FnOk P w K mg base CX0 2 fs fds ["found"] (spShort T)) (cS : CallF K mg "is_short" fs fds ["found"]) (er : ErrT P w K mg base C fI fdI) (ml : mg "len" = none) :
    FnOk P w K mg base (L2.CX P w) 6 f fd ["names", "text"] (spReadEx K C T) := by
  refine F.okX scReadEx (fun vs H Q E h => ?_) (fun cdv A outer s H vs Q E hr h => ?_)
  · obtain ⟨nm, z, names, lead, its, rfl, _⟩ := h
    rfl
  · obtain ⟨nm, z, names, lead, its, rfl, hS, hN, h5, hall, hne, hl9, hz, hcs, hT, kQ, kE⟩ := h
    have hr1 : Room 1 _ := hr.mono (by decide)
    have hr2 : Room 2 _ := hr.mono (by decide)
    have hr3 : Room 3 _ := hr.mono (by decide)
    have hr4 : Room 4 _ := hr.mono (by decide)
    -- the while and what stands behind it
    obtain ⟨t6, h6, ok6⟩ : ∃ t6, PSs (cxOf (L2.CX P w) P w K mg base NEx "read_expression" (defScope sReadEx) f cdv A outer s H E) ((defBody sReadEx).drop 6) t6 ∧
        ∀ (done rest : List It) (at_ : Nat) (p : Addr) (b : Bool) (H' : Hp), its = done ++ rest → done ≠ [] → Same H H' → IsVal H' p (vecOf names.length done) → z.cps.toList.drop at_ = goT names false rest → at_ ≤ z.length →
          t6 { nx := fun _ H' => Q .non H', rt := Q } [some (.ref nm), some (.str z), some (.int (at_ : Int)), some (.bl b), some (.ref p), none] H' := by
      refine ⟨_, pss_cons (ps_while (passes_of rfl) (pt_cmpR op_lt (pv 2) (pe_callB call_len_str (by rfl) ml PySem.boot_len (pa_cons (pv 1) pa_nil)) (nomark _))
          (pss_cons (ps_if (pt_cmpR op_notIn_sign (pe_item_str (pv 1) (pv 2) (fun _ _ => rfl)) pe_str (by rfl)) pss_never pss_nil)
          (pss_cons (ps_set (i := 3) scReadEx.nd rfl (.inl rfl) (pe_cmpR op_eq (pe_item_str (pv 1) (pv 2) (fun _ _ => rfl)) pe_str (nomark _)))
          (pss_cons (ps_asg (pe_call GT hr (by rfl) cT.gl cT.kp cT.bd .nil pass0 (pa_cons (pv 0) (pa_cons (pv 1) (pa_cons (pe_call GK hr1 (by rfl) cK.gl cK.kp cK.bd .nil pass0 (pa_cons (pv 1) (pa_cons (pe_op op_add (pv 2) pe_int) pa_nil))) pa_nil))))
              (pg_tup (by rfl) (pgs_cons (pg_name (i := 5) scReadEx.nd rfl (.inl rfl)) (pgs_cons (pg_name (i := 2) scReadEx.nd rfl (.inl rfl)) pgs_nil))))
          (pss_cons (ps_set (i := 4) scReadEx.nd rfl (.inl rfl) (pe_call GA hr4 (by rfl) cA.gl cA.kp cA.bd .nil pass0 (pa_cons (pv 4) (pa_cons (pe_ifExp (pt_val (pv 3)) (pe_call GO hr2 (by rfl) cO.gl cO.kp cO.bd .nil pass0 (pa_cons (pv 5) pa_nil)) (pv 5)) pa_nil))))
          (pss_one (ps_set (i := 2) scReadEx.nd rfl (.inl rfl) (pe_call GK hr1 (by rfl) cK.gl cK.kp cK.bd .nil pass0 (pa_cons (pv 1) (pa_cons (pv 2) pa_nil))))))))))
        (pss_cons (ps_if (pt_not (pt_val (pe_call GS hr2 (by rfl) cS.gl cS.kp cS.bd .nil pass0 (pa_cons (pv 4) pa_nil))))
            (pss_one (ps_raise rfl (takes_of rfl rfl rfl rfl) (pmk_oex er.ox er.iC er.tI er.ok hr3 er.bd .nil pass0 (by rfl) er.gl (by exact (pa_cons pe_int (pa_cons pe_int pa_nil)))))) pss_nil)
        (pss_one (ps_ret (pv 4)))), ?_⟩
      intro done0 rest0 at0 p0 b0 H0 e0 n0 s0 v0 d0 l0
      refine ⟨fun m σ H' => ∃ (done rest : List It) (at_ : Nat) (p : Addr) (b : Bool) (o : Option V), its = done ++ rest ∧ done ≠ [] ∧ σ = [some (.ref nm), some (.str z), some (.int (at_ : Int)), some (.bl b), some (.ref p), o] ∧ Same H H' ∧
          IsVal H' p (vecOf names.length done) ∧ z.cps.toList.drop at_ = goT names false rest ∧ at_ ≤ z.length ∧ m = rest.length,
        ⟨_, done0, rest0, at0, p0, b0, none, e0, n0, rfl, s0, v0, d0, l0, rfl⟩, ?_⟩
      rintro m σ H' ⟨done, rest, at_, p, b, o, ei, nd, rfl, sm, vp, hd, hat, rfl⟩
      have hdn : AllOk names.length done := fun y hy => hall y (by rw [ei]; exact List.mem_append_left _ hy)
      have hdl : done.length + rest.length ≤ 9 := by
        rw [ei, List.length_append] at hl9
        exact hl9
      have VO := vecOf_ok hdn (by omega)
      refine ⟨_, rfl, _, rfl, z, rfl, small_line (by omega), _, _, rfl, rfl, _, rfl, ?_⟩
      cases rest with
      | nil =>
        have hge := ge_drop hd
        rw [len_list] at hge
        refine iteFF (by omega) ?_
        have edn : done = its := by rw [ei, List.append_nil]
        subst edn
        have hT1 := TabG.same sm hT
        refine ⟨_, rfl, p, _, rfl, vp, by rw [VO.len]; omega, VO.sz, hT1, fun H2 s2 t2 => ?_⟩
        refine ⟨_, rfl, ?_⟩
        cases hsh : shortV (vecOf names.length done) with
        | true =>
          refine iteF ?_
          exact ⟨_, rfl, kQ hsh H2 p ((Same.n sm).trans s2) t2 (s2.val vp)⟩
        | false =>
          refine iteT ?_
          refine ⟨by decide, fun a ha => ?_⟩
          refine ⟨a, rfl, upd_same, fun dx hdx ne => ⟨rfl, dx, errFs, (upd_ne ne.symm).trans upd_same, upd_same, (upd_ne ne).symm.trans hdx, ?_⟩⟩
          have hdx1 : H2 dx = none := (upd_ne ne).symm.trans hdx
          have eh := err_heap (C := C) ha hdx1 ne
          refine kE hsh _ dx (((Same.n sm).trans s2).trans eh) ?_ upd_same
          obtain ⟨ps, hp1, hp2⟩ := t2
          have n1 : T ≠ a := ne_of_none hp1 ha
          have n2 : T ≠ dx := ne_of_none hp1 hdx1
          refine ⟨ps, ?_, hp2⟩
          rw [upd_ne n2, del_ne n1, upd_ne n2, upd_ne n1, upd_ne n2, upd_ne n1]
          exact hp1
      | cons x rest' =>
        have hx : x.t.Ok names.length := hall x (by rw [ei]; exact List.mem_append_right _ List.mem_cons_self)
        have hd1 : z.cps.toList.drop at_ = (if x.neg = true then 45 else 43) :: (bk x.sb ++ (x.t.text names ++ (bk x.eb ++ goT names false rest'))) := by
          rw [hd, go_cons]
        have hlt := lt_drop hd1
        rw [len_list] at hlt
        have hd2 := drop_one hd1
        have hd3 : z.cps.toList.drop (at_ + 1 + (bk x.sb).length) = x.t.text names ++ (bk x.eb ++ goT names false rest') := drop_more hd2
        have hd4 : z.cps.toList.drop (at_ + 1 + (bk x.sb).length + (x.t.text names).length) = bk x.eb ++ goT names false rest' := drop_more hd3
        have hd5 : z.cps.toList.drop (at_ + 1 + (bk x.sb).length + (x.t.text names).length + (bk x.eb).length) = goT names false rest' := drop_more hd4
        have hlen : at_ + 1 + (bk x.sb).length + (x.t.text names).length + (bk x.eb).length ≤ z.length := by
          have e9 : (z.cps.toList.drop at_).length = ((if x.neg = true then 45 else 43) :: (bk x.sb ++ (x.t.text names ++ (bk x.eb ++ goT names false rest')))).length := by rw [hd1]
          rw [List.length_drop, len_list, List.length_cons, List.length_append, List.length_append, List.length_append] at e9
          omega
        have r1 := run_of hd2 (bk_blank _) (Tm.no_blank hN hx _)
        have r2 := run_of hd4 (bk_blank _) (go_stop names rest')
        refine iteTT (by omega) ?_
        refine ⟨fun σ' H1 => ∃ (at2 : Nat) (p2 : Addr) (b2 : Bool) (o2 : Option V), σ' = [some (.ref nm), some (.str z), some (.int (at2 : Int)), some (.bl b2), some (.ref p2), o2] ∧ Same H H1 ∧ IsVal H1 p2 (vecOf names.length (done ++ [x])) ∧ z.cps.toList.drop at2 = goT names false rest' ∧ at2 ≤ z.length,
          fun σ' H1 ⟨at2, p2, b2, o2, e1, e2, e3, e4, e5⟩ => ⟨rest'.length, by rw [List.length_cons]; omega, done ++ [x], rest', at2, p2, b2, o2, by rw [ei, List.append_assoc]; rfl, by simp, e1, e2, e3, e4, e5, rfl⟩, ?_⟩
        -- if text[at] not in '+-'
        have hc : z.cps[((at_ : Nat) : Int).toNat]? = some (if x.neg = true then 45 else 43) := by
          rw [Int.toNat_natCast, at_list]
          exact at_drop hd1
        refine ⟨_, rfl, _, rfl, z, _, _, rfl, rfl, by omega, by omega, by omega, hc, ?_⟩
        refine ⟨_, _, rfl, rfl, _, rfl, ?_⟩
        rw [pm_codes]
        have hin : (if x.neg = true then 45 else 43) ∈ ([43, 45] : List Nat) := by
          cases x.neg <;> decide
        rw [decide_eq_true hin]
        refine iteF ?_
        -- turned = text[at] == '-'
        refine ⟨_, rfl, _, rfl, z, _, _, rfl, rfl, by omega, by omega, by omega, hc, ?_⟩
        have hneg : decide (V.str ⟨#[if x.neg = true then 45 else 43]⟩ = V.str ("-" : Str)) = x.neg := by
          cases hx9 : x.neg with
          | true => exact decide_eq_true ((chr_iff minus_is).mpr rfl)
          | false => exact decide_eq_false fun z9 => absurd ((chr_iff minus_is).mp z9) (by decide)
        refine ⟨rfl, ?_⟩
        rw [hneg]
        -- one, at = read_term(names, text, skip_blanks(text, at + 1))
        refine ⟨_, rfl, _, rfl, _, rfl, _, rfl, _, _, rfl, rfl, z, at_ + 1, (by show [V.str z, V.int ((at_ : Int) + 1)] = _; rw [Int.natCast_add]; rfl), by omega, by omega, ?_⟩
        rw [r1]
        refine ⟨nm, z, _, names, x.t, _, rfl, sm.seq hS, hN, by omega, hx, by omega, hd3, follow names x.eb rest', fun H1 p1 q1 s1 e1 f1 => ?_⟩
        refine ⟨p1, _, rfl, .inl (.inl e1), rfl, _, _, rfl, _, _, rfl, rfl, ?_⟩
        have sm1 : Same H H1 := sm.trans s1
        refine ⟨_, rfl, _, rfl, _, rfl, ?_⟩
        cases hx9 : x.neg with
        | true =>
          refine iteT ?_
          refine ⟨_, rfl, q1, _, rfl, f1, by rw [oneAt_len]; omega, fun H3 r3 s3 f3 => ?_⟩
          have ev : x.val = negQ x.t.val := if_pos hx9
          rw [map_neg_oneAt, ← ev] at f3
          refine ⟨p, r3, vecOf names.length done, oneAt names.length x.t.place x.val, rfl, vp.same (s1.trans s3), f3, by rw [VO.len, oneAt_len], by rw [VO.len]; omega, fun y hy => (VO.sz y hy).mono (by decide), one_sz2 hx, fun H4 r4 s4 f4 => ?_⟩
          rw [add_term VO hx, ← vec_snoc] at f4
          refine ⟨_, rfl, _, rfl, z, at_ + 1 + (bk x.sb).length + (x.t.text names).length, rfl, by omega, by omega, ?_⟩
          rw [r2]
          exact ⟨_, r4, _, _, rfl, (sm1.trans s3).trans s4, f4, hd5, hlen⟩
        | false =>
          refine iteF ?_
          have ev : x.val = x.t.val := if_neg (by rw [hx9]; exact Bool.false_ne_true)
          rw [← ev] at f1
          refine ⟨_, rfl, ?_⟩
          refine ⟨p, q1, vecOf names.length done, oneAt names.length x.t.place x.val, rfl, vp.same s1, f1, by rw [VO.len, oneAt_len], by rw [VO.len]; omega, fun y hy => (VO.sz y hy).mono (by decide), one_sz2 hx, fun H4 r4 s4 f4 => ?_⟩
          rw [add_term VO hx, ← vec_snoc] at f4
          refine ⟨_, rfl, _, rfl, z, at_ + 1 + (bk x.sb).length + (x.t.text names).length, rfl, by omega, by omega, ?_⟩
          rw [r2]
          exact ⟨_, r4, _, _, rfl, (sm1.trans (Same.refl _)).trans s4, f4, hd5, hlen⟩
    -- the first term
    obtain ⟨t3, h3, ok3⟩ : ∃ t3, PSs (cxOf (L2.CX P w) P w K mg base NEx "read_expression" (defScope sReadEx) f cdv A outer s H E) ((defBody sReadEx).drop 3) t3 ∧
        ∀ (x : It) (rest : List It) (at_ : Nat), its = x :: rest → z.cps.toList.drop at_ = x.t.text names ++ (bk x.eb ++ goT names false rest) → at_ ≤ z.length →
          t3 { nx := fun _ H' => Q .non H', rt := Q } [some (.ref nm), some (.str z), some (.int (at_ : Int)), some (.bl x.neg), none, none] H := by
      refine ⟨_, pss_cons (ps_asg (pe_call GT hr (by rfl) cT.gl cT.kp cT.bd .nil pass0 (pa_cons (pv 0) (pa_cons (pv 1) (pa_cons (pv 2) pa_nil))))
            (pg_tup (by rfl) (pgs_cons (pg_name (i := 4) scReadEx.nd rfl (.inl rfl)) (pgs_cons (pg_name (i := 2) scReadEx.nd rfl (.inl rfl)) pgs_nil))))
        (pss_cons (ps_if (pt_val (pv 3)) (pss_one (ps_set (i := 4) scReadEx.nd rfl (.inl rfl) (pe_call GO hr2 (by rfl) cO.gl cO.kp cO.bd .nil pass0 (pa_cons (pv 4) pa_nil)))) pss_nil)
        (pss_cons (ps_set (i := 2) scReadEx.nd rfl (.inl rfl) (pe_call GK hr1 (by rfl) cK.gl cK.kp cK.bd .nil pass0 (pa_cons (pv 1) (pa_cons (pv 2) pa_nil)))) h6)), ?_⟩
      intro x rest at_ ei hd hat
      have hx : x.t.Ok names.length := hall x (by rw [ei]; exact List.mem_cons_self)
      have hd2 : z.cps.toList.drop (at_ + (x.t.text names).length) = bk x.eb ++ goT names false rest := drop_more hd
      have hd3 : z.cps.toList.drop (at_ + (x.t.text names).length + (bk x.eb).length) = goT names false rest := drop_more hd2
      have hlen : at_ + (x.t.text names).length + (bk x.eb).length ≤ z.length := by
        have e9 : (z.cps.toList.drop at_).length = (x.t.text names ++ (bk x.eb ++ goT names false rest)).length := by rw [hd]
        rw [List.length_drop, len_list, List.length_append, List.length_append] at e9
        omega
      have r2 := run_of hd2 (bk_blank _) (go_stop names rest)
      refine ⟨_, rfl, _, rfl, _, rfl, nm, z, at_, names, x.t, _, rfl, hS, hN, by omega, hx, by omega, hd, follow names x.eb rest, fun H1 p1 q1 s1 e1 f1 => ?_⟩
      refine ⟨p1, _, rfl, .inl (.inl e1), rfl, _, _, rfl, _, _, rfl, rfl, ?_⟩
      refine ⟨_, rfl, _, rfl, ?_⟩
      cases hx9 : x.neg with
      | true =>
        refine iteT ?_
        refine ⟨_, rfl, q1, _, rfl, f1, by rw [oneAt_len]; omega, fun H3 r3 s3 f3 => ?_⟩
        have ev : x.val = negQ x.t.val := if_pos hx9
        rw [map_neg_oneAt, ← ev, ← first_term hx] at f3
        refine ⟨_, rfl, _, rfl, z, at_ + (x.t.text names).length, rfl, by omega, by omega, ?_⟩
        rw [r2]
        exact ok6 [x] rest _ r3 true H3 ei (by simp) (s1.trans s3) f3 hd3 hlen
      | false =>
        refine iteF ?_
        have ev : x.val = x.t.val := if_neg (by rw [hx9]; exact Bool.false_ne_true)
        rw [← ev, ← first_term hx] at f1
        refine ⟨_, rfl, _, rfl, z, at_ + (x.t.text names).length, rfl, by omega, by omega, ?_⟩
        rw [r2]
        exact ok6 [x] rest _ q1 false H1 ei (by simp) s1 f1 hd3 hlen
    obtain ⟨x, rest, ei⟩ : ∃ x rest, its = x :: rest := by
      cases its with
      | nil => exact absurd rfl hne
      | cons x rest => exact ⟨x, rest, rfl⟩
    have hx : x.t.Ok names.length := hall x (by rw [ei]; exact List.mem_cons_self)
    have hcs2 : z.cps.toList = bk lead ++ (x.sign true ++ (x.t.text names ++ (bk x.eb ++ goT names false rest))) := by
      rw [hcs, ei]
      show bk lead ++ ((x.sign true ++ (x.t.text names ++ bk x.eb)) ++ goT names false rest) = _
      rw [List.append_assoc, List.append_assoc]
    have hlen : (bk lead).length + (x.sign true).length + (x.t.text names).length ≤ z.length := by
      have e9 : z.cps.toList.length = (bk lead ++ (x.sign true ++ (x.t.text names ++ (bk x.eb ++ goT names false rest)))).length := by rw [hcs2]
      rw [len_list, List.length_append, List.length_append, List.length_append] at e9
      omega
    have hd0 : z.cps.toList.drop 0 = bk lead ++ (x.sign true ++ (x.t.text names ++ (bk x.eb ++ goT names false rest))) := hcs2
    have hd1 : z.cps.toList.drop (0 + (bk lead).length) = x.sign true ++ (x.t.text names ++ (bk x.eb ++ goT names false rest)) := drop_more hd0
    refine ⟨_, pss_cons (ps_set (i := 2) scReadEx.nd rfl (.inl rfl) (pe_call GK hr1 (by rfl) cK.gl cK.kp cK.bd .nil pass0 (pa_cons (pv 1) (pa_cons pe_int pa_nil))))
      (pss_cons (ps_set (i := 3) scReadEx.nd rfl (.inl rfl) (pe_and (pe_cmpR op_lt (pv 2) (pe_callB call_len_str (by rfl) ml PySem.boot_len (pa_cons (pv 1) pa_nil)) (nomark _)) (pe_one (pe_cmpR op_eq (pe_item_str (pv 1) (pv 2) (fun _ _ => rfl)) pe_str (nomark _)))))
      (pss_cons (ps_if (pt_val (pv 3)) (pss_one (ps_set (i := 2) scReadEx.nd rfl (.inl rfl) (pe_call GK hr1 (by rfl) cK.gl cK.kp cK.bd .nil pass0 (pa_cons (pv 1) (pa_cons (pe_op op_add (pv 2) pe_int) pa_nil))))) pss_nil) h3)), ?_⟩
    refine ⟨_, rfl, z, 0, rfl, by omega, by omega, ?_⟩
    obtain ⟨c0, r0, et, hc0⟩ := Tm.head hN hx
    cases hx9 : x.neg with
    | true =>
      have es : x.sign true = 45 :: bk x.sb := by
        unfold It.sign
        rw [if_neg (by rw [hx9]; simp), if_pos hx9]
      rw [es] at hd0 hd1 hlen
      rw [run_of hd0 (bk_blank _) (fun c hc => by
        have ec : 45 = c := Option.some.inj hc
        rw [← ec]
        rfl)]
      rw [List.length_cons] at hlen
      refine ⟨_, rfl, _, rfl, z, rfl, small_line (by omega), _, _, rfl, rfl, _, rfl, ?_⟩
      refine iteTT (by omega) ?_
      refine ⟨_, rfl, _, rfl, z, _, 45, rfl, rfl, by omega, by omega, by omega, by rw [Int.toNat_natCast, at_list]; exact at_drop hd1, rfl, ?_⟩
      rw [decide_eq_true ((chr_iff minus_is).mpr rfl)]
      refine ⟨_, rfl, _, rfl, ?_⟩
      refine iteT ?_
      have hd2 : z.cps.toList.drop (0 + (bk lead).length + 1) = bk x.sb ++ (x.t.text names ++ (bk x.eb ++ goT names false rest)) := drop_one hd1
      refine ⟨_, rfl, _, rfl, _, _, rfl, rfl, z, 0 + (bk lead).length + 1, (by show [V.str z, V.int (((0 + (bk lead).length : Nat) : Int) + 1)] = _; rw [Int.natCast_add (0 + (bk lead).length) 1]; rfl), by omega, by omega, ?_⟩
      rw [run_of hd2 (bk_blank _) (Tm.no_blank hN hx _)]
      have q := ok3 x rest (0 + (bk lead).length + 1 + (bk x.sb).length) ei (drop_more hd2) (by omega)
      rw [hx9] at q
      exact q
    | false =>
      have es : x.sign true = [] := by
        unfold It.sign
        rw [if_pos ⟨rfl, hx9⟩]
      rw [es, List.nil_append] at hd0 hd1
      rw [es] at hlen
      rw [run_of hd0 (bk_blank _) (Tm.no_blank hN hx _)]
      have hd2 : z.cps.toList.drop (0 + (bk lead).length) = c0 :: (r0 ++ (bk x.eb ++ goT names false rest)) := by rw [hd1, et]; rfl
      have hlt := lt_drop hd2
      rw [len_list] at hlt
      refine ⟨_, rfl, _, rfl, z, rfl, small_line (by omega), _, _, rfl, rfl, _, rfl, ?_⟩
      refine iteTT (by omega) ?_
      refine ⟨_, rfl, _, rfl, z, _, c0, rfl, rfl, by omega, by omega, by omega, by rw [Int.toNat_natCast, at_list]; exact at_drop hd2, rfl, ?_⟩
      have n45 : c0 ≠ 45 := Tm.no_minus hN hx (u := bk x.eb ++ goT names false rest) (c := c0) (r := r0 ++ (bk x.eb ++ goT names false rest)) (by rw [et]; rfl)
      rw [decide_eq_false (fun z9 => n45 ((chr_iff minus_is).mp z9))]
      refine ⟨_, rfl, _, rfl, ?_⟩
      refine iteF ?_
      have q := ok3 x rest (0 + (bk lead).length) ei hd1 (by omega)
      rw [hx9] at q
      exact q
end
end Tp
/-! The law's own small defs. -/
namespace Tp
open PySem PySem.Spec PyProof.Rows L2
abbrev sLNum : Stmt := topS 29
abbrev sLFrac : Stmt := topS 31
abbrev sLPlus : Stmt := topS 32
abbrev sLShort : Stmt := topS 33
section
variable {X : Cx}
/-- a text times a number -/
def rMulS : R2 := fun x y H Q => ∃ (z : Str) (n : Int), x = .str z ∧ y = .int n ∧ MulOk z n ∧ Q (.str (Txt.mul z n)) H
theorem op_mulS : OpR X (binaryOp .Mult) rMulS := by
  intro pins s σ H x y v u Q I rx ry h
  obtain ⟨z, n, rfl, rfl, hm, q⟩ := h
  obtain ⟨t, rfl⟩ := rx
  obtain ⟨t', rfl⟩ := ry
  exact SB.mul hm fun t2 k => ⟨.str (Txt.mul z n), H, I.tok _, ⟨_, rfl⟩, q⟩
end
def spLNum (K : PySem.W.Frag) : Sp := fun vs H Q _ => ∃ (a : Addr) (k : Nat) (ns : List Int), vs = [.ref a, .int (k : Int)] ∧ SqL K H a (ns.map V.int) ∧ ns.length ≤ 63 ∧ k ≤ 1000 ∧ ∀ n : Nat, Q (.int (n : Int)) H
section
variable {P : Program} {w : World} {K : PySem.W.Frag} {mg : Str → Option Value} {base : Heap}
theorem scLNum : FnScope ["_law_script", "_law_k", "_law_cell", "_law_first", "_law_second"] ["_law_script", "_law_k"] (defScope sLNum) := ⟨rfl, rfl, rfl, by decide +kernel, rfl, by decide +kernel, by decide +kernel⟩
theorem fmod_pos (a b : Int) (h : 0 < b) : 0 ≤ Int.fmod a b ∧ Int.fmod a b < b := by
  rw [Int.fmod_eq_emod_of_nonneg a (by omega)]
  exact ⟨Int.emod_nonneg a (by omega), Int.emod_lt_of_pos a h⟩
theorem nat_of {z : Int} (h : 0 ≤ z) : ∃ n : Nat, z = (n : Int) := Int.eq_ofNat_of_zero_le h
theorem ok_lnum {f : Addr} {fd : FuncData} (F : Fun K "_law_number" "_law_number" sLNum f fd) (ml : mg "len" = none) (mi : mg "int" = none) : FnOk P w K mg base CX0 1 f fd ["_law_script", "_law_k"] (spLNum K) := by
  refine F.ok scLNum (fun vs H Q E h => ?_) (fun cdv A outer s H vs Q E hr h => ?_)
  · obtain ⟨a, k, ns, rfl, _⟩ := h
    rfl
  · obtain ⟨a, k, ns, rfl, hS, hn, hk, q⟩ := h
    -- from «if cell < 10 ** 9» on
    obtain ⟨t2, h2, ok2⟩ : ∃ t2, PSs (cxOf CX0 P w K mg base ["_law_script", "_law_k", "_law_cell", "_law_first", "_law_second"] "_law_number" (defScope sLNum) f cdv A outer s H E).nox ((defBody sLNum).drop 2) t2 ∧
        ∀ c : Int, 0 ≤ c → t2 { nx := fun _ H' => Q .non H', rt := Q } [some (.ref a), some (.int (k : Int)), some (.int c), none, none] H := by
      refine ⟨_, pss_cons (ps_if (pt_cmpR op_lt (pv 2) (pe_op op_pow pe_int pe_int) (nomark _))
          (pss_cons (ps_set (i := 3) scLNum.nd rfl (.inl rfl) (pe_op op_modN (pe_callTy call_int1 (by rfl) mi (by decide +kernel) (pa_cons (pe_op op_add (pe_op op_add (pe_op op_mul (pv 2) pe_int) (pe_op op_mul (pv 1) pe_int)) pe_int) pa_nil)) pe_int))
          (pss_cons (ps_set (i := 4) scLNum.nd rfl (.inl rfl) (pe_op op_modN (pe_callTy call_int1 (by rfl) mi (by decide +kernel) (pa_cons (pe_op op_add (pe_op op_add (pe_op op_mul (pv 3) pe_int) (pe_op op_mul (pv 2) pe_int)) (pv 1)) pa_nil)) pe_int))
          (pss_one (ps_ret (pe_op op_add (pe_op op_mul (pv 3) pe_int) (pv 4)))))) pss_nil)
        (pss_one (ps_ret (pv 2))), ?_⟩
      intro c hc
      refine ⟨_, rfl, _, _, rfl, rfl, ⟨by decide, by decide, by decide⟩, _, _, rfl, rfl, _, rfl, ?_⟩
      have e9 : (10 : Int) ^ (9 : Int).toNat = 1000000000 := by decide
      by_cases hlt : c < 1000000000
      · refine iteTT (by rw [e9]; exact hlt) ?_
        refine ⟨_, rfl, _, _, rfl, rfl, .inl ⟨by omega, by omega⟩, _, rfl, _, _, rfl, rfl, .inl ⟨by omega, by omega⟩, _, _, rfl, rfl, _, _, rfl, rfl, .inl ⟨_, rfl, _, _, rfl, rfl, (by show (2147483647 : Int) ≠ 0; decide), ?_⟩⟩
        obtain ⟨f1, f2⟩ := fmod_pos (c * 48271 + (k : Int) * 69621 + 17) 2147483647 (by decide)
        refine ⟨_, rfl, _, _, rfl, rfl, .inr ⟨by decide, by decide⟩, _, rfl, _, _, rfl, rfl, .inl ⟨by omega, by omega⟩, _, _, rfl, rfl, _, rfl, _, _, rfl, rfl, .inl ⟨_, rfl, _, _, rfl, rfl, (by show (2147483629 : Int) ≠ 0; decide), ?_⟩⟩
        refine ⟨_, rfl, _, _, rfl, rfl, .inr ⟨by decide, by decide⟩, _, rfl, _, _, rfl, rfl, ?_⟩
        obtain ⟨g1, g2⟩ := fmod_pos (Int.fmod (c * 48271 + (k : Int) * 69621 + 17) 2147483647 * 16807 + c * 7919 + (k : Int)) 2147483629 (by decide)
        obtain ⟨n, en⟩ := nat_of (show 0 ≤ Int.fmod (c * 48271 + (k : Int) * 69621 + 17) 2147483647 * 2147483629 + Int.fmod (Int.fmod (c * 48271 + (k : Int) * 69621 + 17) 2147483647 * 16807 + c * 7919 + (k : Int)) 2147483629 by omega)
        have qn := q n
        rw [← en] at qn
        exact qn
      · refine iteFF (by rw [e9]; exact hlt) ?_
        obtain ⟨n, en⟩ := nat_of hc
        refine ⟨_, rfl, ?_⟩
        rw [en]
        exact q n
    refine ⟨_, pss_cons (ps_set (i := 2) scLNum.nd rfl (.inl rfl) (pe_ifExp (pt_cmpR op_lt (pv 1) (pe_callB call_len_seq (by rfl) ml PySem.boot_len (pa_cons (pv 0) pa_nil)) (nomark _)) (pe_ix ix_list (pv 0) (pv 1) (fun _ _ => rfl)) (pe_op op_add (pe_op op_mul pe_int (pv 1)) pe_int)))
      (pss_cons (ps_if (pt_cmpR op_lt (pv 2) pe_int (nomark _)) (pss_one (ps_set (i := 2) scLNum.nd rfl (.inl rfl) (pe_op op_sub (pe_op op_mul (pe_un un_neg pe_int) (pv 2)) pe_int))) pss_nil) h2), ?_⟩
    refine ⟨_, rfl, _, rfl, a, _, rfl, .inl hS, _, _, rfl, rfl, _, rfl, ?_⟩
    rw [List.length_map]
    by_cases hlt : k < ns.length
    · refine iteTT (by omega) ?_
      refine ⟨_, rfl, _, rfl, a, _, _, _, rfl, rfl, hS, at_of (j := k) rfl (by rw [List.getElem?_map, List.getElem?_eq_getElem hlt]; rfl), ?_⟩
      refine ⟨_, rfl, _, _, rfl, rfl, _, rfl, ?_⟩
      by_cases hc : ns[k] < 0
      · refine iteTT hc ?_
        refine ⟨_, rfl, _, rfl, _, _, rfl, rfl, .inl ⟨by decide, by decide⟩, _, _, rfl, rfl, ?_⟩
        exact ok2 (-2 * ns[k] - 1) (by omega)
      · refine iteFF hc ?_
        exact ok2 ns[k] (by omega)
    · refine iteFF (by omega) ?_
      refine ⟨_, rfl, _, _, rfl, rfl, .inl ⟨by decide, by decide⟩, _, _, rfl, rfl, ?_⟩
      refine ⟨_, rfl, _, _, rfl, rfl, _, rfl, ?_⟩
      refine iteFF (by omega) ?_
      exact ok2 (3 * (k : Int) + 1) (by omega)
end
end Tp
/-! The law's own fractions. -/
namespace Tp
open PySem PySem.Spec PyProof.Rows L2
def spLFrac : Sp := fun vs H Q _ => ∃ n d : Int, vs = [.int n, .int d] ∧ 0 < d ∧ n.natAbs < 2 ^ 1900 ∧ d.natAbs < 2 ^ 1900 ∧ ∀ H' p, Same H H' → IsFr H' p (fr n d) → Q (.ref p) H'
def spLPlus : Sp := fun vs H Q _ => ∃ (a b : Addr) (p q : Q2), vs = [.ref a, .ref b] ∧ IsFr H a p ∧ IsFr H b q ∧ Sz 900 p ∧ Sz 900 q ∧ ∀ H' r, Same H H' → IsFr H' r (plusQ p q) → Q (.ref r) H'
def numS (n : Nat) : Str := Str.ofString (toString (n : Int))
theorem numS_codes (n : Nat) : (numS n).cps.toList = dg n := PySem.W.KIN.signs_num n
theorem numS_len (n : Nat) : (numS n).length = ln n := by
  rw [← dg_len, ← numS_codes]
  exact Array.length_toList.symm
theorem log_ok {n : Nat} {B : Nat} (h : n < 2 ^ B) (h0 : 0 < B) (h9 : B ≤ 1920) : ((n : Int)).natAbs.log2 < 1920 :=
  Nat.lt_of_lt_of_le (PySem.Flt.log2_lt_of h0 (by rw [Int.natAbs_natCast]; exact h)) h9
theorem abs_if {σ : L2.St} {H : Hp} {Q : VK} {i : Nat} {n : Int} (hs : σ[i]? = some (some (.int n))) (h : Q (.int (n.natAbs : Int)) H) :
    tIf (tTest (tOp (rI0 fun i j => .bl (decide (j ≤ i))) (tVar i) (tC (.int 0)))) (tVar i) (tUn (fun x H Q => ∃ i, x = .int i ∧ Q (.int (-i)) H) (tVar i)) σ H Q := by
  refine ⟨_, hs, _, _, rfl, rfl, _, rfl, ?_⟩
  by_cases c : (0 : Int) ≤ n
  · refine iteTT c ?_
    refine ⟨_, hs, ?_⟩
    have e : n = (n.natAbs : Int) := by omega
    rw [← e] at h
    exact h
  · refine iteFF c ?_
    refine ⟨_, hs, _, rfl, ?_⟩
    have e : -n = (n.natAbs : Int) := by omega
    rw [e]
    exact h
section
variable {P : Program} {w : World} {K : PySem.W.Frag} {mg : Str → Option Value} {base : Heap}
abbrev NLF : List Str := ["_law_number_here", "_law_divisor", "_law_a", "_law_b", "_law_k", "_law_rest"]
theorem scLFrac : FnScope NLF ["_law_number_here", "_law_divisor"] (defScope sLFrac) := ⟨rfl, rfl, rfl, by decide +kernel, rfl, by decide +kernel, by decide +kernel⟩
theorem ln_small {n : Nat} (h : n < 2 ^ 1900) : ln n ≤ 1900 := ln_le (Nat.lt_of_lt_of_le h (Nat.pow_le_pow_left (by decide) 1900)) (by decide)
theorem ok_lfrac {f : Addr} {fd : FuncData} (F : Fun K "_law_fraction" "_law_fraction" sLFrac f fd) (ml : mg "len" = none) (mi : mg "int" = none) (ms : mg "str" = none) (mr : mg "range" = none) : FnOk P w K mg base CX0 1 f fd ["_law_number_here", "_law_divisor"] spLFrac := by
  refine F.ok scLFrac (fun vs H Q E h => ?_) (fun cdv A outer s H vs Q E hr h => ?_)
  · obtain ⟨n, d, rfl, _⟩ := h
    rfl
  · obtain ⟨n, d, rfl, hd, hn2, hd2, k⟩ := h
    have hg : (0 : Int) < (Int.gcd n d : Int) := by have := gcd_pos (n := n) hd; omega
    have d1 : ¬ d < 0 := by
      clear hn2 hd2
      omega
    obtain ⟨t3, h3, ok3⟩ : ∃ t3, PSs (cxOf CX0 P w K mg base NLF "_law_fraction" (defScope sLFrac) f cdv A outer s H E).nox ((defBody sLFrac).drop 3) t3 ∧
        ∀ (o1 o2 o3 : Option V), t3 { nx := fun _ H' => Q .non H', rt := Q } [some (.int n), some (.int d), some (.int (Int.gcd n d : Int)), o1, o2, o3] H := by
      refine ⟨_, pss_cons (ps_if (pt_cmpR op_lt (pv 1) pe_int (nomark _)) (pss_one (ps_set (i := 2) scLFrac.nd rfl (.inl rfl) (pe_un un_neg (pv 2)))) pss_nil)
        (pss_one (ps_ret (pe_tup (pa_cons (pe_op op_fdivW (pv 0) (pv 2)) (pa_cons (pe_op op_fdivW (pv 1) (pv 2)) pa_nil))))), ?_⟩
      intro o1 o2 o3
      refine ⟨_, rfl, _, _, rfl, rfl, _, rfl, ?_⟩
      refine iteFF d1 ?_
      have hl : CDivW n (Int.gcd n d : Int) := wide_div hg (wide_le (by omega) (gcd_le (n := n) hd) hd2) (by decide) (by decide)
      refine ⟨_, rfl, _, rfl, _, _, rfl, rfl, hl, _, rfl, _, rfl, _, _, rfl, rfl, ⟨hl.1, hl.2⟩, (by show 2 ≤ sizeLine; decide), fun p hp => ?_⟩
      exact k _ p (same_new hp) upd_same
    refine ⟨_, pss_cons (ps_set (i := 2) scLFrac.nd rfl (.inl rfl) (pe_ifExp (pt_cmpR op_ge (pv 0) pe_int (nomark _)) (pv 0) (pe_un un_neg (pv 0))))
      (pss_cons (ps_set (i := 3) scLFrac.nd rfl (.inl rfl) (pe_ifExp (pt_cmpR op_ge (pv 1) pe_int (nomark _)) (pv 1) (pe_un un_neg (pv 1))))
      (pss_cons (ps_for PassesOwn.never rfl (pi_range1 (by rfl) mr (pa_cons (pe_op op_add (pe_op op_add (pe_op op_mul pe_int (pe_callB call_len_str (by rfl) ml PySem.boot_len (pa_cons (pe_callTy call_str_int (by rfl) ms (by decide +kernel) (pa_cons (pv 2) pa_nil)) pa_nil)))
            (pe_op op_mul pe_int (pe_callB call_len_str (by rfl) ml PySem.boot_len (pa_cons (pe_callTy call_str_int (by rfl) ms (by decide +kernel) (pa_cons (pv 3) pa_nil)) pa_nil)))) pe_int) pa_nil)) (pg_name (i := 4) scLFrac.nd rfl (.inl rfl))
          (pss_cons (ps_if (pt_cmpR op_eq (pv 3) pe_int (nomark _)) (pss_one ps_break) pss_nil)
          (pss_cons (ps_set (i := 5) scLFrac.nd rfl (.inl rfl) (pe_op op_modN (pe_callTy call_int1 (by rfl) mi (by decide +kernel) (pa_cons (pv 2) pa_nil)) (pv 3)))
          (pss_cons (ps_set (i := 2) scLFrac.nd rfl (.inl rfl) (pv 3))
          (pss_one (ps_set (i := 3) scLFrac.nd rfl (.inl rfl) (pv 5))))))) h3)), ?_⟩
    refine abs_if (i := 0) rfl ?_
    refine abs_if (i := 1) rfl ?_
    have la := ln_small hn2
    have lb := ln_small hd2
    have hgn : Nat.gcd n.natAbs d.natAbs = Int.gcd n d := rfl
    generalize ha0 : n.natAbs = a0 at *
    generalize hb0 : d.natAbs = b0 at *
    refine ⟨_, rfl, _, rfl, log_ok hn2 (by decide) (by decide), numS a0, rfl, by rw [numS_len]; exact small_line (by omega), _, _, rfl, rfl, .inl ⟨by decide, by decide⟩, ?_⟩
    refine ⟨_, rfl, _, rfl, log_ok hd2 (by decide) (by decide), numS b0, rfl, by rw [numS_len]; exact small_line (by omega), _, _, rfl, rfl, .inl ⟨by decide, by decide⟩, _, _, rfl, rfl, _, _, rfl, rfl, ?_⟩
    rw [numS_len, numS_len]
    refine ⟨_, rfl, by omega, by omega, ?_⟩
    rw [show (4 * ((ln a0 : Nat) : Int) + 4 * ((ln b0 : Nat) : Int) + 60).toNat = 4 * ln a0 + 4 * ln b0 + 60 by omega]
    refine for_range (lo := 0) (n := 4 * ln a0 + 4 * ln b0 + 60) (fun i σ H' => ∃ (a b : Nat) (o1 o2 : Option V), σ = [some (.int n), some (.int d), some (.int (a : Int)), some (.int (b : Int)), o1, o2] ∧ H' = H ∧ Eu a0 b0 i a b)
      ⟨a0, b0, none, none, rfl, rfl, Eu.start a0 b0⟩ ?_ ?_
    · rintro i σ H' hi ⟨a, b, o1, o2, rfl, rfl, eu⟩
      refine ⟨_, rfl, rfl, _, rfl, ?_⟩
      by_cases hb : b = 0
      · subst hb
        refine iteTT rfl ?_
        have eg : a = Int.gcd n d := by
          have z := eu.g
          rw [Nat.gcd_zero_right] at z
          rw [z, hgn]
        rw [eg]
        exact ok3 _ _ _
      · refine iteFF (fun z => hb (by have := V.int.inj z; omega)) ?_
        refine ⟨_, rfl, .inl ⟨_, rfl, _, rfl, _, _, rfl, rfl, (by show ((b : Nat) : Int) ≠ 0; omega), ?_⟩⟩
        refine ⟨_, rfl, _, rfl, b, a % b, some (.int (0 + (i : Int))), some (.int (Int.fmod (a : Int) (b : Int))), ?_, rfl, eu.next hb⟩
        rw [← fmod_nat]
        rfl
    · rintro σ H' ⟨a, b, o1, o2, rfl, rfl, eu⟩
      have hb : b = 0 := eu.done (k := 4 * ln a0 + 4 * ln b0) (by omega) (ln_prod a0 b0)
      subst hb
      have eg : a = Int.gcd n d := by
        have z := eu.g
        rw [Nat.gcd_zero_right] at z
        rw [z, hgn]
      rw [eg]
      exact ok3 _ _ _
abbrev NLP : List Str := ["_law_a", "_law_b"]
theorem scLPlus : FnScope NLP NLP (defScope sLPlus) := ⟨rfl, rfl, rfl, by decide +kernel, rfl, by decide +kernel, by decide +kernel⟩
theorem ok_lplus {f ff : Addr} {fd fdf : FuncData} (F : Fun K "_law_plus" "_law_plus" sLPlus f fd) (GF : FnOk P w K mg base CX0 1 ff fdf ["_law_number_here", "_law_divisor"] spLFrac) (cF : CallF K mg "_law_fraction" ff fdf ["_law_number_here", "_law_divisor"]) : FnOk P w K mg base CX0 2 f fd NLP spLPlus := by
  refine F.ok scLPlus (fun vs H Q E h => ?_) (fun cdv A outer s H vs Q E hr h => ?_)
  · obtain ⟨a, b, p, q, rfl, _⟩ := h
    rfl
  · obtain ⟨a, b, p, q, rfl, ha, hb, sp, sq, k⟩ := h
    refine ⟨_, pss_one (ps_ret (pe_call GF hr (by rfl) cF.gl cF.kp cF.bd .nil pass0 (pa_cons (pe_op op_add (pe_op op_mulW (pe_ix ix_tup (pv 0) pe_int (fun _ _ => rfl)) (pe_ix ix_tup (pv 1) pe_int (fun _ _ => rfl)))
      (pe_op op_mulW (pe_ix ix_tup (pv 1) pe_int (fun _ _ => rfl)) (pe_ix ix_tup (pv 0) pe_int (fun _ _ => rfl)))) (pa_cons (pe_op op_mulW (pe_ix ix_tup (pv 0) pe_int (fun _ _ => rfl)) (pe_ix ix_tup (pv 1) pe_int (fun _ _ => rfl))) pa_nil)))), ?_⟩
    refine ⟨_, rfl, a, _, _, _, rfl, rfl, .inl (.inl ha), fr_at0, _, rfl, b, _, _, _, rfl, rfl, .inl (.inl hb), fr_at1, _, _, rfl, rfl, wide3 sp.n sq.d (by decide) (by decide), ?_⟩
    refine ⟨_, rfl, b, _, _, _, rfl, rfl, .inl (.inl hb), fr_at0, _, rfl, a, _, _, _, rfl, rfl, .inl (.inl ha), fr_at1, _, _, rfl, rfl, wide3 sq.n sp.d (by decide) (by decide), _, _, rfl, rfl, ?_⟩
    refine ⟨_, rfl, a, _, _, _, rfl, rfl, .inl (.inl ha), fr_at1, _, rfl, b, _, _, _, rfl, rfl, .inl (.inl hb), fr_at1, _, _, rfl, rfl, wide3 sp.d sq.d (by decide) (by decide), ?_⟩
    exact ⟨_, _, rfl, Int.mul_pos sp.p sq.p, Nat.lt_of_lt_of_le (plus_num sp sq) (Nat.pow_le_pow_right (by decide) (by decide)), Nat.lt_of_lt_of_le (plus_den sp sq) (Nat.pow_le_pow_right (by decide) (by decide)), k⟩
end
end Tp
/-! _law_short. -/
namespace Tp
open PySem PySem.Spec PyProof.Rows L2
def IsRow (H : Hp) (a : Addr) (v : List Q2) : Prop := ∃ as : List Addr, H a = some (.lst (as.map V.ref)) ∧ FrsAt H as v
theorem IsRow.same {H H' : Hp} (s : Same H H') {a : Addr} {v : List Q2} (h : IsRow H a v) : IsRow H' a v := by
  obtain ⟨as, e, f⟩ := h
  exact ⟨as, s _ _ e, f.same s⟩
def spLShort : Sp := fun vs H Q _ => ∃ (a : Addr) (v : List Q2), vs = [.ref a] ∧ IsRow H a v ∧ v.length ≤ 5 ∧ (∀ q ∈ v, Sz 350 q) ∧ ∀ H', Same H H' → Q (.bl (shortV v)) H'
section
variable {P : Program} {w : World} {K : PySem.W.Frag} {mg : Str → Option Value} {base : Heap}
abbrev NLS : List Str := ["_law_row", "_law_below", "_law_one", "_law_step", "_law_size"]
theorem scLShort : FnScope NLS ["_law_row"] (defScope sLShort) := ⟨rfl, rfl, rfl, by decide +kernel, rfl, by decide +kernel, by decide +kernel⟩
theorem below_at5 {v : List Q2} (hl : v.length ≤ 5) (hs : ∀ q ∈ v, Sz 350 q) (i : Nat) : 0 < belowV (v.take i) ∧ (belowV (v.take i)).natAbs < 2 ^ 1760 := by
  obtain ⟨h1, h2⟩ := below_sz (C := 350) (v.take i) 1 1 (by decide) (by decide) fun q hq => ⟨(hs q (List.mem_of_mem_take hq)).p, (hs q (List.mem_of_mem_take hq)).d⟩
  refine ⟨h1, Nat.lt_of_lt_of_le h2 (Nat.pow_le_pow_right (by decide) ?_)⟩
  rw [List.length_take]
  omega
def okQ (bl : Int) (q : Q2) : Bool := decide ((q.1 * (bl / q.2)).natAbs < 1000000000000)
theorem ok_lshort {f ff : Addr} {fd fdf : FuncData} (F : Fun K "_law_short" "_law_short" sLShort f fd) (GF : FnOk P w K mg base CX0 1 ff fdf ["_law_number_here", "_law_divisor"] spLFrac) (cF : CallF K mg "_law_fraction" ff fdf ["_law_number_here", "_law_divisor"]) : FnOk P w K mg base CX0 2 f fd ["_law_row"] spLShort := by
  refine F.ok scLShort (fun vs H Q E h => ?_) (fun cdv A outer s H vs Q E hr h => ?_)
  · obtain ⟨a, v, rfl, _⟩ := h
    rfl
  · obtain ⟨a, v, rfl, ⟨as, ea, fa⟩, hl, hs, k⟩ := h
    refine ⟨_, pss_cons (ps_set (i := 1) scLShort.nd rfl (.inl rfl) pe_int)
      (pss_cons (ps_for PassesOwn.never rfl (pi_list (pv 0)) (pg_name (i := 2) scLShort.nd rfl (.inl rfl))
        (pss_cons (ps_set (i := 3) scLShort.nd rfl (.inl rfl) (pe_call GF hr (by rfl) cF.gl cF.kp cF.bd .nil pass0 (pa_cons (pv 1) (pa_cons (pe_ix ix_tup (pv 2) pe_int (fun _ _ => rfl)) pa_nil))))
        (pss_one (ps_set (i := 1) scLShort.nd rfl (.inl rfl) (pe_op op_mulW (pe_ix ix_tup (pv 3) pe_int (fun _ _ => rfl)) (pe_ix ix_tup (pv 2) pe_int (fun _ _ => rfl)))))))
      (pss_cons (ps_if (pt_cmpR op_ge (pv 1) (pe_op op_pow pe_int pe_int) (nomark _)) (pss_one (ps_ret pe_bl)) pss_nil)
      (pss_cons (ps_for PassesOwn.never rfl (pi_list (pv 0)) (pg_name (i := 2) scLShort.nd rfl (.inl rfl))
        (pss_cons (ps_set (i := 4) scLShort.nd rfl (.inl rfl) (pe_op op_mulW (pe_ix ix_tup (pv 2) pe_int (fun _ _ => rfl)) (pe_op op_fdivW (pv 1) (pe_ix ix_tup (pv 2) pe_int (fun _ _ => rfl)))))
        (pss_one (ps_if (PW.pt (pw_or (pt_cmpR op_ge (pv 4) (pe_op op_pow pe_int pe_int) (nomark _)) (pw_or1 (pt_cmpR op_ge (pe_un un_neg (pv 4)) (pe_op op_pow pe_int pe_int) (nomark _))))) (pss_one (ps_ret pe_bl)) pss_nil))))
      (pss_one (ps_ret pe_bl))))), ?_⟩
    have R0 : ∀ H', Same H H' → SqL K H' a (as.map V.ref) := fun H' s => .inl (.inl (s _ _ ea))
    refine ⟨_, rfl, a, rfl, ⟨_, R0 H (Same.refl H)⟩, for_list (K := K) (a := a) (xs := as.map V.ref) (fun i σ H' => ∃ o o2, σ = [some (.ref a), some (.int (belowV (v.take i))), o, o2, none] ∧ Same H H')
      ⟨none, none, rfl, Same.refl H⟩ (fun i σ H' _ ⟨_, _, _, e⟩ => R0 H' e) ?_ ?_⟩
    · rintro i x σ H' hx ⟨o, o2, rfl, sm⟩
      obtain ⟨ay, gay, rfl⟩ := ref_get hx
      obtain ⟨y, hy, fay⟩ := fa.back gay
      have hys := hs y (List.mem_of_getElem? hy)
      obtain ⟨hb1, hb2⟩ := below_at5 hl hs i
      have fay' := fay.mono sm
      refine ⟨_, rfl, _, rfl, ay, _, _, _, rfl, rfl, .inl (.inl fay'), fr_at1, belowV (v.take i), y.2, rfl, hys.p, Nat.lt_of_lt_of_le hb2 (Nat.pow_le_pow_right (by decide) (by decide)), Nat.lt_of_lt_of_le hys.d (Nat.pow_le_pow_right (by decide) (by decide)), fun H1 p1 s1 f1 => ?_⟩
      have hz1 := fr_sz (B := 1760) (n := belowV (v.take i)) hys.p hb2 (Nat.lt_of_lt_of_le hys.d (Nat.pow_le_pow_right (by decide) (by decide)))
      refine ⟨_, rfl, p1, _, _, _, rfl, rfl, .inl (.inl f1), fr_at0, _, rfl, ay, _, _, _, rfl, rfl, .inl (.inl (fay'.mono s1)), fr_at1, _, _, rfl, rfl, wide_mul hz1.n hys.d (by decide) (by decide) (by decide), ?_⟩
      refine ⟨some (.ref ay), some (.ref p1), ?_, sm.trans s1⟩
      rw [take_snoc hy, below_snoc, ← lcm_law]
      rfl
    · rintro σ H' ⟨o, o2, rfl, sm⟩
      obtain ⟨hb1, hb2⟩ := below_at5 hl hs v.length
      rw [List.length_map, fa.len, List.take_length] at *
      have etn : (10 : Int) ^ (12 : Int).toNat = lim := by decide
      refine ⟨_, rfl, _, _, rfl, rfl, ⟨by decide, by decide, by decide⟩, _, _, rfl, rfl, _, rfl, ?_⟩
      by_cases hge : lim ≤ belowV v
      · refine iteTT (show (10 : Int) ^ (12 : Int).toNat ≤ belowV v by rw [etn]; exact hge) ?_
        have e9 : shortV v = false := by
          unfold shortV
          rw [decide_eq_false (by omega), Bool.false_and]
        rw [← e9]
        exact k H' sm
      refine iteFF (show ¬ (10 : Int) ^ (12 : Int).toNat ≤ belowV v by rw [etn]; exact hge) ?_
      have hsh : shortV v = v.all (okQ (belowV v)) := by
        unfold shortV
        rw [decide_eq_true (by omega), Bool.true_and]
        rfl
      refine ⟨_, rfl, a, rfl, ⟨_, R0 H' sm⟩, for_list (K := K) (a := a) (xs := as.map V.ref) (fun i σ H1 => ∃ o o2 o3, σ = [some (.ref a), some (.int (belowV v)), o, o2, o3] ∧ Same H H1 ∧ ∀ q ∈ v.take i, okQ (belowV v) q = true)
        ⟨o, o2, none, rfl, sm, fun q hq => by cases hq⟩ (fun i σ H1 _ ⟨_, _, _, _, e, _⟩ => R0 H1 e) ?_ ?_⟩
      · rintro i x σ H1 hx ⟨o4, o5, o6, rfl, sm1, hall⟩
        obtain ⟨ay, gay, rfl⟩ := ref_get hx
        obtain ⟨y, hy, fay⟩ := fa.back gay
        have hys := hs y (List.mem_of_getElem? hy)
        have fay' := fay.mono sm1
        refine ⟨_, rfl, ay, _, _, _, rfl, rfl, .inl (.inl fay'), fr_at0, _, rfl, _, rfl, ay, _, _, _, rfl, rfl, .inl (.inl fay'), fr_at1, _, _, rfl, rfl, wide_div hys.p hys.d (by decide) (by decide), _, _, rfl, rfl, wide_mul (a := 350) (b := 1760) hys.n (Nat.lt_of_le_of_lt ?_ hb2) (by decide) (by decide) (by decide), ?_⟩
        · rw [Int.natAbs_ediv_of_nonneg (by omega)]
          exact Nat.div_le_self _ _
        have el : lim = 1000000000000 := rfl
        have no : okQ (belowV v) y = false → Q (.bl false) H1 := fun hf => by
          have e9 : v.all (okQ (belowV v)) = false := by
            rw [Bool.eq_false_iff]
            intro z
            rw [List.all_eq_true] at z
            rw [z y (List.mem_of_getElem? hy)] at hf
            cases hf
          rw [← e9, ← hsh]
          exact k H1 sm1
        refine ⟨_, rfl, _, _, rfl, rfl, ⟨by decide, by decide, by decide⟩, _, _, rfl, rfl, _, rfl, ?_⟩
        generalize hsz : y.1 * (belowV v / y.2) = sz
        by_cases h1 : lim ≤ sz
        · refine iteTT (show (10 : Int) ^ (12 : Int).toNat ≤ sz by rw [etn]; exact h1) ?_
          refine iteT ?_
          refine no (decide_eq_false ?_)
          rw [hsz]
          clear hb2
          omega
        refine iteFF (show ¬ (10 : Int) ^ (12 : Int).toNat ≤ sz by rw [etn]; exact h1) ?_
        refine ⟨_, rfl, _, rfl, _, _, rfl, rfl, ⟨by decide, by decide, by decide⟩, _, _, rfl, rfl, _, rfl, ?_⟩
        by_cases h2 : lim ≤ -sz
        · refine iteTT (show (10 : Int) ^ (12 : Int).toNat ≤ -(y.1 * (belowV v / y.2)) by rw [etn, hsz]; exact h2) ?_
          refine no (decide_eq_false ?_)
          rw [hsz]
          clear hb2
          omega
        refine iteFF (show ¬ (10 : Int) ^ (12 : Int).toNat ≤ -(y.1 * (belowV v / y.2)) by rw [etn, hsz]; exact h2) ?_
        refine ⟨_, _, _, rfl, sm1, fun q hq => ?_⟩
        rw [take_snoc hy] at hq
        rcases List.mem_append.mp hq with z | z
        · exact hall q z
        · rw [List.mem_singleton.mp z]
          refine decide_eq_true ?_
          rw [hsz]
          clear hb2
          omega
      · rintro σ H1 ⟨o4, o5, o6, rfl, sm1, hall⟩
        rw [List.length_map, fa.len, List.take_length] at hall
        have e9 : shortV v = true := by
          rw [hsh, List.all_eq_true]
          exact hall
        show Q (.bl true) H1
        rw [← e9]
        exact k H1 sm1
end
end Tp
/-! _law_term. -/
namespace Tp
open PySem PySem.Spec PyProof.Rows L2
abbrev sLTerm : Stmt := topS 34
abbrev rFdA : R2 := fun x y H Q => ∃ a b : Nat, x = .int (a : Int) ∧ y = .int (b : Int) ∧ 0 < b ∧ b < 1073741824 ∧ Q (.int ((a / b : Nat) : Int)) H
abbrev rModA : R2 := fun x y H Q => ∃ a b : Nat, x = .int (a : Int) ∧ y = .int (b : Int) ∧ 0 < b ∧ Q (.int ((a % b : Nat) : Int)) H
section
variable {X : Cx}
/-- // and % of natural numbers -/
theorem op_fdivA : OpR X (binaryOp .FloorDiv) rFdA := by
  intro pins s σ H x y v u Q I rx ry h
  obtain ⟨a, b, rfl, rfl, h0, h1, q⟩ := h
  exact op_fdivN pins s σ H _ _ v u Q I rx ry ⟨_, _, rfl, rfl, ⟨by omega, by omega⟩, by show Q (.int (Int.fdiv (a : Int) (b : Int))) H; rw [fdiv_nat]; exact q⟩
theorem op_addA : OpR X (binaryOp .Add) (fun x y H Q => ∃ a b : Nat, x = .int (a : Int) ∧ y = .int (b : Int) ∧ Q (.int ((a + b : Nat) : Int)) H) := by
  intro pins s σ H x y v u Q I rx ry h
  obtain ⟨a, b, rfl, rfl, q⟩ := h
  exact op_add pins s σ H _ _ v u Q I rx ry ⟨_, _, rfl, rfl, by show Q (.int ((a : Int) + (b : Int))) H; rw [← Int.natCast_add]; exact q⟩
theorem op_modA : OpR X (binaryOp .Mod) rModA := by
  intro pins s σ H x y v u Q I rx ry h
  obtain ⟨a, b, rfl, rfl, h0, q⟩ := h
  exact op_modN pins s σ H _ _ v u Q I rx ry ⟨_, _, rfl, rfl, (by show ((b : Nat) : Int) ≠ 0; omega), by show Q (.int (Int.fmod (a : Int) (b : Int))) H; rw [fmod_nat]; exact q⟩
end
/-- 10 ** (k + 1) written as a text -/
def tenS (k : Nat) : Str := "1" ++ Txt.mul "0" (1 + (k : Int))
theorem tenS_ok (k : Nat) (h : k < 11) : MulOk "0" (1 + (k : Int)) ∧ intText? (tenS k) = some ((10 ^ (k + 1) : Nat) : Int) ∧ (tenS k).length ≤ 640 ∧ ("1" : Str).length + (Txt.mul "0" (1 + (k : Int))).length ≤ sizeLine := by
  have hk : k = 0 ∨ k = 1 ∨ k = 2 ∨ k = 3 ∨ k = 4 ∨ k = 5 ∨ k = 6 ∨ k = 7 ∨ k = 8 ∨ k = 9 ∨ k = 10 := by omega
  rcases hk with rfl | rfl | rfl | rfl | rfl | rfl | rfl | rfl | rfl | rfl | rfl <;> (unfold MulOk; decide +kernel)
theorem ten_lt {k a : Nat} (h : k < 11) : a % 10 ^ (k + 1) < 100000000000 := by
  have h1 : a % 10 ^ (k + 1) < 10 ^ (k + 1) := Nat.mod_lt a (Nat.pow_pos (by decide))
  have h2 : 10 ^ (k + 1) ≤ 10 ^ 11 := Nat.pow_le_pow_right (by decide) (by omega)
  have h3 : (10 : Nat) ^ 11 = 100000000000 := by decide
  omega
theorem ten_lt4 {k a : Nat} (h : k < 4) : a % 10 ^ (k + 1) < 10000 := by
  have h1 : a % 10 ^ (k + 1) < 10 ^ (k + 1) := Nat.mod_lt a (Nat.pow_pos (by decide))
  have h2 : 10 ^ (k + 1) ≤ 10 ^ 4 := Nat.pow_le_pow_right (by decide) (by omega)
  have h3 : (10 : Nat) ^ 4 = 10000 := by decide
  omega
theorem app_codes (a b : Str) : (a ++ b).cps.toList = a.cps.toList ++ b.cps.toList := by
  show (a.cps ++ b.cps).toList = _
  exact Array.toList_append
theorem len_codes (a : Str) : a.length = a.cps.toList.length := (len_list a).symm
def bkS (b : Bool) : Str := if b = true then " " else ""
theorem bkS_codes (b : Bool) : (bkS b).cps.toList = bk b := by
  cases b <;> decide +kernel
theorem star_codes : ("*" : Str).cps.toList = [42] := by decide +kernel
theorem stroke_codes : ("/" : Str).cps.toList = [47] := by decide +kernel
theorem bk_len (b : Bool) : (bk b).length ≤ 1 := by
  cases b <;> decide
/-- int(draw // c) % m -/
def tDM (c m : Int) : TE := tOp rModA (tCB (fun xs H Q => (∃ i, xs = [.int i] ∧ Q (.int i) H) ∨ ∃ k, xs = [.bl k] ∧ Q (.int (if k then 1 else 0)) H) (tCons (tOp rFdA (tVar 0) (tC (.int c))) tNil)) (tC (.int m))
theorem dm_is {σ : L2.St} {H : Hp} {Q : VK} {dr : Nat} (c m : Nat) (hs : σ[0]? = some (some (.int (dr : Int)))) (h0 : 0 < c) (h1 : c < 1073741824) (h2 : 0 < m) (h : Q (.int ((dr / c % m : Nat) : Int)) H) : tDM (c : Int) (m : Int) σ H Q :=
  ⟨_, hs, dr, c, rfl, rfl, h0, h1, .inl ⟨_, rfl, _, m, rfl, rfl, h2, h⟩⟩
/-- int('1' + '0' * int(1 + int(draw // c) % m)) -/
theorem ten_is {σ : L2.St} {H : Hp} {Q : VK} {dr : Nat} (c m : Nat) (hs : σ[0]? = some (some (.int (dr : Int)))) (h0 : 0 < c) (h1 : c < 1073741824) (h2 : 0 < m) (hm : m ≤ 11) (h : Q (.int ((10 ^ (dr / c % m + 1) : Nat) : Int)) H) :
    tCB (fun xs H Q => ∃ a n, xs = [.str a] ∧ intText? a = some n ∧ a.length ≤ 640 ∧ Q (.int n) H) (tCons (tOp (fun x y H Q => ∃ i j, x = .str i ∧ y = .str j ∧ i.length + j.length ≤ sizeLine ∧ Q (.str (i ++ j)) H) (tC (.str "1"))
      (tOp rMulS (tC (.str "0")) (tCB (fun xs H Q => (∃ i, xs = [.int i] ∧ Q (.int i) H) ∨ ∃ k, xs = [.bl k] ∧ Q (.int (if k then 1 else 0)) H) (tCons (tOp (rI0 fun i j => .int (i + j)) (tC (.int 1)) (tDM (c : Int) (m : Int))) tNil)))) tNil) σ H Q := by
  refine dm_is c m hs h0 h1 h2 ?_
  obtain ⟨e1, e2, e3, e4⟩ := tenS_ok (dr / c % m) (by have := Nat.mod_lt (dr / c) h2; omega)
  exact ⟨_, _, rfl, rfl, .inl ⟨_, rfl, _, _, rfl, rfl, e1, _, _, rfl, rfl, e4, _, _, rfl, e2, e3, h⟩⟩
theorem blank_if {σ : L2.St} {H : Hp} {Q : VK} {dr : Nat} (hs : σ[0]? = some (some (.int (dr : Int)))) (h : Q (.str (bkS (decide (dr / 23 % 2 = 0)))) H) :
    tIf (tTest (tOp rEq (tDM 23 2) (tC (.int 0)))) (tC (.str " ")) (tC (.str "")) σ H Q := by
  refine dm_is 23 2 hs (by decide) (by decide) (by decide) ?_
  refine ⟨rfl, _, rfl, ?_⟩
  by_cases e : dr / 23 % 2 = 0
  · rw [decide_eq_true e] at h
    refine iteTT (by rw [e]; rfl) ?_
    exact h
  · rw [decide_eq_false e] at h
    refine iteFF (fun z => e (by have := V.int.inj z; omega)) ?_
    exact h
def SameBut (fo : Addr) (H H' : Hp) : Prop := ∀ b o, b ≠ fo → H b = some o → H' b = some o
theorem FrsAt.set {H : Hp} {r : Addr} {q : Q2} (hr : IsFr H r q) : ∀ {as : List Addr} {qs : List Q2} (i : Nat), FrsAt H as qs → FrsAt H (as.set i r) (qs.set i q)
  | _, _, _, .nil => .nil
  | _, _, 0, .cons _ t => .cons hr t
  | _, _, i + 1, .cons h t => .cons h (FrsAt.set hr i t)
def spLTerm (K : PySem.W.Frag) : Sp := fun vs H Q _ => ∃ (nm fo : Addr) (dr : Nat) (names : List Str) (v : List Q2) (neg : Bool), vs = [.int (dr : Int), .ref nm, .ref fo, .int (if neg = true then -1 else 1)] ∧ SqL K H nm (names.map V.str) ∧ names.length ≤ 4 ∧
  (∀ a ∈ names, a.length ≤ 20) ∧ IsRow H fo v ∧ VOk names.length 400 v ∧
  ∀ H' (t : Tm) (z : Str), t.Ok names.length → z.cps.toList = t.text names → z.length ≤ 100 → SameBut fo H H' → IsRow H' fo (stepV v ⟨neg, false, false, t⟩) → Q (.str z) H'
abbrev NLT : List Str := ["_law_draw", "_law_names", "_law_found", "_law_sign", "_law_top", "_law_low", "_law_text", "_law_factor", "_law_place", "_law_blank"]
section
variable {P : Program} {w : World} {K : PySem.W.Frag} {mg : Str → Option Value} {base : Heap}
theorem scLTerm : FnScope NLT ["_law_draw", "_law_names", "_law_found", "_law_sign"] (defScope sLTerm) := ⟨rfl, rfl, rfl, by decide +kernel, rfl, by decide +kernel, by decide +kernel⟩
theorem ok_lterm {f ff fp : Addr} {fd fdf fdp : FuncData} (F : Fun K "_law_term" "_law_term" sLTerm f fd) (GF : FnOk P w K mg base CX0 1 ff fdf ["_law_number_here", "_law_divisor"] spLFrac) (cF : CallF K mg "_law_fraction" ff fdf ["_law_number_here", "_law_divisor"])
    (GP : FnOk P w K mg base CX0 2 fp fdp NLP spLPlus) (cP : CallF K mg "_law_plus" fp fdp NLP) (ml : mg "len" = none) (mi : mg "int" = none) (ms : mg "str" = none) : FnOk P w K mg base CX0 3 f fd ["_law_draw", "_law_names", "_law_found", "_law_sign"] (spLTerm K) := by
  refine F.ok scLTerm (fun vs H Q E h => ?_) (fun cdv A outer s H vs Q E hr h => ?_)
  · obtain ⟨nm, fo, dr, names, v, neg, rfl, _⟩ := h
    rfl
  · obtain ⟨nm, fo, dr, names, v, neg, rfl, hS, h4, h20, ⟨as, eo, fa⟩, VO, k⟩ := h
    have hr1 : Room 1 _ := hr.mono (by decide)
    -- the end: factor = (sign * factor[0], factor[1]); found[place] = _law_plus(found[place], factor); return text
    obtain ⟨t7, h7, ok7⟩ : ∃ t7, PSs (cxOf CX0 P w K mg base NLT "_law_term" (defScope sLTerm) f cdv A outer s H E).nox ((defBody sLTerm).drop 7) t7 ∧
        ∀ (t : Tm) (z : Str) (c : Addr) (H1 : Hp) (o4 o5 o9 : Option V), t.Ok names.length → z.cps.toList = t.text names → z.length ≤ 100 → Same H H1 → IsFr H1 c t.val →
          t7 { nx := fun _ H' => Q .non H', rt := Q } [some (.int (dr : Int)), some (.ref nm), some (.ref fo), some (.int (if neg = true then -1 else 1)), o4, o5, some (.str z), some (.ref c), some (.int (t.place : Int)), o9] H1 := by
      refine ⟨_, pss_cons (ps_set (i := 7) scLTerm.nd rfl (.inl rfl) (pe_tup (pa_cons (pe_op op_mul (pv 3) (pe_ix ix_tup (pv 7) pe_int (fun _ _ => rfl))) (pa_cons (pe_ix ix_tup (pv 7) pe_int (fun _ _ => rfl)) pa_nil))))
        (pss_cons (ps_asg (pe_call GP hr (by rfl) cP.gl cP.kp cP.bd .nil pass0 (pa_cons (pe_ix ix_list (pv 2) (pv 8) (fun _ _ => rfl)) (pa_cons (pv 7) pa_nil))) (pg_sub (pv 2) (pv 8) set_list))
        (pss_one (ps_ret (pv 6)))), ?_⟩
      intro t z c H1 o4 o5 o9 ht ez hz sm fc
      have hsg : (-(2 ^ 64 : Int)) < (if neg = true then -1 else 1) ∧ (if neg = true then (-1 : Int) else 1) < 2 ^ 64 := by
        cases neg <;> decide
      refine ⟨_, rfl, _, rfl, c, _, _, _, rfl, rfl, .inl (.inl fc), fr_at0, _, _, rfl, rfl, .inl hsg, _, rfl, c, _, _, _, rfl, rfl, .inl (.inl fc), fr_at1, (by show 2 ≤ sizeLine; decide), fun p hp => ?_⟩
      have sm1 : Same H (upd H1 p (.tup [.int ((if neg = true then -1 else 1) * t.val.1), .int t.val.2])) := sm.trans (same_new hp)
      have hx : (⟨neg, false, false, t⟩ : It).t.Ok names.length := ht
      have fp : IsFr (upd H1 p (.tup [.int ((if neg = true then -1 else 1) * t.val.1), .int t.val.2])) p (⟨neg, false, false, t⟩ : It).val := by
        unfold IsFr It.val
        rw [upd_same]
        cases neg with
        | true =>
          show some (HO.tup [V.int (-1 * t.val.1), V.int t.val.2]) = some (HO.tup [V.int (-t.val.1), V.int t.val.2])
          rw [Int.neg_one_mul]
        | false =>
          show some (HO.tup [V.int (1 * t.val.1), V.int t.val.2]) = some (HO.tup [V.int t.val.1, V.int t.val.2])
          rw [Int.one_mul]
      obtain ⟨b, gb, fb⟩ := fa.get (VO.get ht.pl)
      have hb := VO.at ht.pl
      refine ⟨_, rfl, _, rfl, fo, _, _, _, rfl, rfl, .inl (.inl (sm1 _ _ eo)), ref_at rfl gb, _, rfl, b, p, _, _, rfl, fb.mono sm1, fp, hb.2.mono (by decide), (It.val_sz hx).mono (by decide), fun H2 r s2 f2 => ?_⟩
      have sm2 := sm1.trans s2
      have hix : ixN (as.map V.ref).length ((t.place : Nat) : Int) = some t.place := by
        have hl := VO.len
        have hpl := ht.pl
        unfold ixN
        rw [if_pos (by omega), List.length_map, fa.len, if_pos (by omega), Int.toNat_natCast]
      refine ⟨_, rfl, _, rfl, fo, _, _, _, rfl, rfl, sm2 _ _ eo, hix, ?_⟩
      refine ⟨_, rfl, ?_⟩
      refine k _ t z ht ez hz (fun b9 o9 nb e9 => ?_) ⟨as.set t.place r, ?_, ?_⟩
      · rw [upd_ne nb]
        exact sm2 _ _ e9
      · rw [upd_same, List.map_set]
      · refine FrsAt.lst (sm2 _ _ eo) ?_
        exact FrsAt.set f2 _ (fa.same sm2)
    -- place = 0; the parameter
    obtain ⟨t5, h5, ok5⟩ : ∃ t5, PSs (cxOf CX0 P w K mg base NLT "_law_term" (defScope sLTerm) f cdv A outer s H E).nox ((defBody sLTerm).drop 5) t5 ∧
        ∀ (t : Tm) (z : Str) (c : Addr) (H1 : Hp) (o4 o5 : Option V), t.Ok names.length → z.cps.toList = t.num → z.length ≤ 30 → Same H H1 → IsFr H1 c t.nval →
          t5 { nx := fun _ H' => Q .non H', rt := Q } [some (.int (dr : Int)), some (.ref nm), some (.ref fo), some (.int (if neg = true then -1 else 1)), o4, o5, some (.str z), some (.ref c), none, none] H1 := by
      refine ⟨_, pss_cons (ps_set (i := 8) scLTerm.nd rfl (.inl rfl) pe_int)
        (pss_cons (ps_if (PW.pt (pw_and (pt_cmpR op_gt (pe_callB call_len_seq (by rfl) ml PySem.boot_len (pa_cons (pv 1) pa_nil)) pe_int (nomark _)) (pw_and1 (pt_cmpR op_gt (pe_op op_modA (pe_callTy call_int1 (by rfl) mi (by decide +kernel) (pa_cons (pe_op op_fdivA (pv 0) pe_int) pa_nil)) pe_int) pe_int (nomark _)))))
          (pss_cons (ps_set (i := 8) scLTerm.nd rfl (.inl rfl) (pe_op op_add pe_int (pe_op op_modA (pe_callTy call_int1 (by rfl) mi (by decide +kernel) (pa_cons (pe_op op_fdivA (pv 0) pe_int) pa_nil)) (pe_callB call_len_seq (by rfl) ml PySem.boot_len (pa_cons (pv 1) pa_nil)))))
          (pss_cons (ps_set (i := 9) scLTerm.nd rfl (.inl rfl) (pe_ifExp (pt_cmpR op_eq (pe_op op_modA (pe_callTy call_int1 (by rfl) mi (by decide +kernel) (pa_cons (pe_op op_fdivA (pv 0) pe_int) pa_nil)) pe_int) pe_int (nomark _)) pe_str pe_str))
          (pss_one (ps_if (pt_cmpR op_eq (pe_op op_modA (pe_callTy call_int1 (by rfl) mi (by decide +kernel) (pa_cons (pe_op op_fdivA (pv 0) pe_int) pa_nil)) pe_int) pe_int (nomark _))
            (pss_cons (ps_set (i := 7) scLTerm.nd rfl (.inl rfl) (pe_tup (pa_cons pe_int (pa_cons pe_int pa_nil)))) (pss_one (ps_set (i := 6) scLTerm.nd rfl (.inl rfl) (pe_ix ix_list (pv 1) (pe_op op_sub (pv 8) pe_int) (fun _ _ => rfl)))))
            (pss_one (ps_set (i := 6) scLTerm.nd rfl (.inl rfl) (pe_op op_add_str (pe_op op_add_str (pe_op op_add_str (pe_op op_add_str (pv 6) (pv 9)) pe_str) (pv 9)) (pe_ix ix_list (pv 1) (pe_op op_sub (pv 8) pe_int) (fun _ _ => rfl))))))))) pss_nil) h7), ?_⟩
      intro t z c H1 o4 o5 ht ez hz sm fc
      -- no parameter
      have plain : t7 { nx := fun _ H' => Q .non H', rt := Q } [some (.int (dr : Int)), some (.ref nm), some (.ref fo), some (.int (if neg = true then -1 else 1)), o4, o5, some (.str z), some (.ref c), some (.int 0), none] H1 := by
        refine ok7 { t with place := 0 } z c H1 o4 o5 none ⟨ht.top, ht.low1, ht.low2, Nat.zero_le _⟩ ez (by omega) sm ?_
        have ev : ({ t with place := 0 } : Tm).val = t.nval := if_neg (by simp)
        rw [ev]
        exact fc
      have S1 : SqL K H1 nm (names.map V.str) := sm.seq hS
      refine ⟨_, rfl, nm, _, rfl, .inl S1, _, _, rfl, rfl, _, rfl, ?_⟩
      rw [List.length_map]
      by_cases hn : names.length = 0
      · refine iteFF (by omega) ?_
        exact plain
      refine iteTT (by omega) ?_
      refine ⟨_, rfl, dr, 17, rfl, rfl, by decide, by decide, .inl ⟨_, rfl, _, 3, rfl, rfl, by decide, _, _, rfl, rfl, _, rfl, ?_⟩⟩
      by_cases h17 : (0 : Int) < ((dr / 17 % 3 : Nat) : Int)
      · refine iteTT h17 ?_
        have hm : dr / 19 % (names.map V.str).length < names.length := by
          rw [List.length_map]
          exact Nat.mod_lt _ (by omega)
        refine ⟨_, rfl, dr, 19, rfl, rfl, by decide, by decide, .inl ⟨_, rfl, _, rfl, nm, _, rfl, .inl S1, _, (names.map V.str).length, rfl, rfl, (by rw [List.length_map]; omega), _, _, rfl, rfl, ?_⟩⟩
        generalize hmm : dr / 19 % (names.map V.str).length = m at hm ⊢
        refine blank_if rfl ?_
        generalize hbl : decide (dr / 23 % 2 = 0) = bl
        obtain ⟨a, ha⟩ := nm_is hm
        have h20a := h20 a (List.mem_of_getElem? ha)
        have gix : ∀ x : Int, x = (m : Int) → atI (names.map V.str) x = some (.str a) := fun x ex => at_of (j := m) ex (by rw [List.getElem?_map, ha]; rfl)
        refine dm_is 29 3 rfl (by decide) (by decide) (by decide) ?_
        refine ⟨rfl, _, rfl, ?_⟩
        have enm : nmAt names m = a.cps.toList := nm_at ha
        by_cases h29 : dr / 29 % 3 = 0
        · refine iteTT (by rw [h29]; rfl) ?_
          refine ⟨(by show 2 ≤ sizeLine; decide), fun p hp => ?_⟩
          have sm1 : Same H (upd H1 p (.tup [.int 1, .int 1])) := sm.trans (same_new hp)
          refine ⟨_, rfl, _, rfl, _, _, rfl, rfl, nm, _, _, _, rfl, rfl, sm1.seq hS, gix _ (by omega), ?_⟩
          have q := ok7 { t with place := 1 + m, bare := true } a p (upd H1 p (.tup [.int 1, .int 1])) o4 o5 (some (.str (bkS bl))) ⟨ht.top, ht.low1, ht.low2, by show 1 + m ≤ names.length; omega⟩ (by
            unfold Tm.text
            rw [if_neg (by show ¬ 1 + m = 0; omega), if_pos rfl]
            show a.cps.toList = nmAt names (1 + m - 1)
            rw [show 1 + m - 1 = m by omega, enm]) (by omega) sm1 (by
            have ev : ({ t with place := 1 + m, bare := true } : Tm).val = (1, 1) := if_pos ⟨by show ¬ 1 + m = 0; omega, rfl⟩
            rw [ev]
            exact upd_same)
          rw [show (((({ t with place := 1 + m, bare := true } : Tm).place : Nat)) : Int) = 1 + (m : Int) by show ((1 + m : Nat) : Int) = 1 + (m : Int); omega] at q
          exact q
        · refine iteFF (fun z9 => h29 (by have := V.int.inj z9; omega)) ?_
          have hbl1 : (bkS bl).length ≤ 1 := by
            rw [len_codes, bkS_codes]
            exact bk_len bl
          have hst : ("*" : Str).length = 1 := by
            rw [len_codes, star_codes]
            rfl
          have al : ∀ x y : Str, (x ++ y).length = x.length + y.length := fun x y => by
            rw [len_codes, app_codes, List.length_append, ← len_codes, ← len_codes]
          refine ⟨_, rfl, _, rfl, _, _, rfl, rfl, small_line (by omega), _, _, rfl, rfl, small_line (by rw [al]; omega), _, rfl, _, _, rfl, rfl, small_line (by rw [al, al]; omega), _, rfl, _, rfl, _, _, rfl, rfl, nm, _, _, _, rfl, rfl, S1, gix _ (by omega), _, _, rfl, rfl, small_line (by rw [al, al, al]; omega), ?_⟩
          have q := ok7 { t with place := 1 + m, bare := false, bl := bl } (z ++ bkS bl ++ "*" ++ bkS bl ++ a) c H1 o4 o5 (some (.str (bkS bl))) ⟨ht.top, ht.low1, ht.low2, by show 1 + m ≤ names.length; omega⟩ (by
            unfold Tm.text
            rw [if_neg (by show ¬ 1 + m = 0; omega), if_neg (by show ¬ false = true; decide), app_codes, app_codes, app_codes, app_codes, bkS_codes, star_codes, ez]
            show t.num ++ bk bl ++ [42] ++ bk bl ++ a.cps.toList = t.num ++ (bk bl ++ 42 :: (bk bl ++ nmAt names (1 + m - 1)))
            rw [show 1 + m - 1 = m by omega, enm]
            simp only [List.append_assoc, List.cons_append, List.nil_append]) (by rw [al, al, al, al]; omega) sm (by
            have ev : ({ t with place := 1 + m, bare := false, bl := bl } : Tm).val = t.nval := if_neg (by show ¬ (1 + m ≠ 0 ∧ false = true); simp)
            rw [ev]
            exact fc)
          rw [show (((({ t with place := 1 + m, bare := false, bl := bl } : Tm).place : Nat)) : Int) = 1 + (m : Int) by show ((1 + m : Nat) : Int) = 1 + (m : Int); omega] at q
          exact q
      · refine iteFF h17 ?_
        exact plain
    refine ⟨_, pss_cons (ps_set (i := 4) scLTerm.nd rfl (.inl rfl) (pe_op op_modA (pe_callTy call_int1 (by rfl) mi (by decide +kernel) (pa_cons (pv 0) pa_nil))
        (pe_callTy call_int_str (by rfl) mi (by decide +kernel) (pa_cons (pe_op op_add_str pe_str (pe_op op_mulS pe_str (pe_callTy call_int1 (by rfl) mi (by decide +kernel) (pa_cons (pe_op op_add pe_int (pe_op op_modA (pe_callTy call_int1 (by rfl) mi (by decide +kernel) (pa_cons (pe_op op_fdivA (pv 0) pe_int) pa_nil)) pe_int)) pa_nil)))) pa_nil))))
      (pss_cons (ps_set (i := 5) scLTerm.nd rfl (.inl rfl) (pe_op op_addA pe_int (pe_op op_modA (pe_callTy call_int1 (by rfl) mi (by decide +kernel) (pa_cons (pe_op op_fdivA (pv 0) pe_int) pa_nil))
        (pe_callTy call_int_str (by rfl) mi (by decide +kernel) (pa_cons (pe_op op_add_str pe_str (pe_op op_mulS pe_str (pe_callTy call_int1 (by rfl) mi (by decide +kernel) (pa_cons (pe_op op_add pe_int (pe_op op_modA (pe_callTy call_int1 (by rfl) mi (by decide +kernel) (pa_cons (pe_op op_fdivA (pv 0) pe_int) pa_nil)) pe_int)) pa_nil)))) pa_nil)))))
      (pss_cons (ps_set (i := 6) scLTerm.nd rfl (.inl rfl) (pe_callTy call_str_int (by rfl) ms (by decide +kernel) (pa_cons (pv 4) pa_nil)))
      (pss_cons (ps_set (i := 7) scLTerm.nd rfl (.inl rfl) (pe_tup (pa_cons (pv 4) (pa_cons pe_int pa_nil))))
      (pss_cons (ps_if (pt_cmpR op_gt (pe_op op_modA (pe_callTy call_int1 (by rfl) mi (by decide +kernel) (pa_cons (pe_op op_fdivA (pv 0) pe_int) pa_nil)) pe_int) pe_int (nomark _))
        (pss_cons (ps_set (i := 6) scLTerm.nd rfl (.inl rfl) (pe_op op_add_str (pe_op op_add_str (pv 6) pe_str) (pe_callTy call_str_int (by rfl) ms (by decide +kernel) (pa_cons (pv 5) pa_nil))))
        (pss_one (ps_set (i := 7) scLTerm.nd rfl (.inl rfl) (pe_call GF hr1 (by rfl) cF.gl cF.kp cF.bd .nil pass0 (pa_cons (pv 4) (pa_cons (pv 5) pa_nil)))))) pss_nil) h5)))), ?_⟩
    refine ⟨_, rfl, .inl ⟨_, rfl, ?_⟩⟩
    refine ten_is 3 11 rfl (by decide) (by decide) (by decide) (by decide) ?_
    refine ⟨dr, _, rfl, rfl, Nat.pow_pos (by decide), ?_⟩
    refine ⟨_, rfl, dr, 7, rfl, rfl, by decide, by decide, .inl ⟨_, rfl, ?_⟩⟩
    refine ten_is 11 4 rfl (by decide) (by decide) (by decide) (by decide) ?_
    refine ⟨dr / 7, _, rfl, rfl, Nat.pow_pos (by decide), 1, _, rfl, rfl, ?_⟩
    have h11 : dr / 3 % 11 < 11 := Nat.mod_lt _ (by decide)
    have h12 : dr / 11 % 4 < 4 := Nat.mod_lt _ (by decide)
    have htop := ten_lt (a := dr) h11
    have hlow := ten_lt4 (a := dr / 7) h12
    generalize dr % 10 ^ (dr / 3 % 11 + 1) = top at htop ⊢
    generalize dr / 7 % 10 ^ (dr / 11 % 4 + 1) = low at hlow ⊢
    have tok : ∀ st : Bool, (⟨top, 1 + low, 0, st, false, false⟩ : Tm).Ok names.length := fun st => ⟨htop, by show 1 ≤ 1 + low; omega, by show 1 + low ≤ 10000; omega, Nat.zero_le _⟩
    have lt1 := dg_len12 (tok true)
    have lt2 := dg_len12' (tok true)
    have e40 : (2 : Nat) ^ 40 = 1099511627776 := by decide
    have nl1 : (numS top).length = (dg top).length := by rw [numS_len, dg_len]
    have nl2 : (numS (1 + low)).length = (dg (1 + low)).length := by rw [numS_len, dg_len]
    refine ⟨_, rfl, _, rfl, log_ok (n := top) (B := 40) (by rw [e40]; omega) (by decide) (by decide), ?_⟩
    refine ⟨_, rfl, (by show 2 ≤ sizeLine; decide), fun p hp => ?_⟩
    have sm : Same H (upd H p (.tup [.int (top : Int), .int 1])) := same_new hp
    refine dm_is 13 3 rfl (by decide) (by decide) (by decide) ?_
    refine ⟨_, _, rfl, rfl, _, rfl, ?_⟩
    by_cases h13 : (0 : Int) < ((dr / 13 % 3 : Nat) : Int)
    · refine iteTT h13 ?_
      have sl : ("/" : Str).length = 1 := by
        rw [len_codes, stroke_codes]
        rfl
      have al : ∀ x y : Str, (x ++ y).length = x.length + y.length := fun x y => by
        rw [len_codes, app_codes, List.length_append, ← len_codes, ← len_codes]
      have l1 : (dg top).length ≤ 12 := lt1.2
      have l2 : (dg (1 + low)).length ≤ 12 := lt2.2
      refine ⟨_, rfl, numS top, _, rfl, rfl, small_line (by rw [nl1, sl]; omega), _, rfl, _, rfl, log_ok (n := 1 + low) (B := 40) (by rw [e40]; omega) (by decide) (by decide), _, numS (1 + low), rfl, rfl, small_line (by rw [al, nl1, sl, nl2]; omega), ?_⟩
      refine ⟨_, rfl, _, rfl, (top : Int), ((1 + low : Nat) : Int), rfl, by omega, Nat.lt_of_lt_of_le (show ((top : Int)).natAbs < 2 ^ 40 by rw [e40]; omega) (Nat.pow_le_pow_right (by decide) (by decide)), Nat.lt_of_lt_of_le (show (((1 + low : Nat) : Int)).natAbs < 2 ^ 40 by rw [e40]; omega) (Nat.pow_le_pow_right (by decide) (by decide)), fun H2 p2 s2 f2 => ?_⟩
      refine ok5 ⟨top, 1 + low, 0, true, false, false⟩ (numS top ++ "/" ++ numS (1 + low)) p2 H2 _ _ (tok true) ?_ (by rw [al, al, nl1, sl, nl2]; omega) (sm.trans s2) f2
      rw [app_codes, app_codes, numS_codes, numS_codes, stroke_codes]
      show dg top ++ [47] ++ dg (1 + low) = dg top ++ 47 :: dg (1 + low)
      rw [List.append_assoc]
      rfl
    · refine iteFF h13 ?_
      refine ok5 ⟨top, 1 + low, 0, false, false, false⟩ (numS top) p _ _ _ (tok false) ?_ (by rw [nl1]; have := lt1.2; show (dg top).length ≤ 30; have l1 : (dg top).length ≤ 12 := lt1.2; omega) sm upd_same
      rw [numS_codes]
      show dg top = dg top ++ []
      rw [List.append_nil]
end
end Tp
/-! _law_read. -/
namespace Tp
open PySem PySem.Spec PyProof.Rows L2
abbrev sLRead : Stmt := topS 35
def spLRead (K : PySem.W.Frag) (T : Addr) : Sp := fun vs H Q _ => ∃ (nm : Addr) (z : Str) (names : List Str) (lead : Bool) (its : List It), vs = [.ref nm, .str z] ∧ SqL K H nm (names.map V.str) ∧ NamesOk names ∧ names.length ≤ 5 ∧
  AllOk names.length its ∧ its ≠ [] ∧ its.length ≤ 9 ∧ z.length ≤ 80000 ∧ z.cps.toList = exT names lead its ∧ GxR.TabG H T ∧
  (shortV (vecOf names.length its) = true → ∀ H' p, SameN H H' → GxR.TabG H' T → IsVal H' p (vecOf names.length its) → Q (.ref p) H') ∧
  (shortV (vecOf names.length its) = false → ∀ H' p, SameN H H' → GxR.TabG H' T → H' p = some (.tup [.int 1, .int 1]) → Q (.ref p) H')
/-- what the except clause asks -/
structure CatchT (K : PySem.W.Frag) (mg : Str → Option Value) (C : Addr) : Prop where
  gl : mg "TextFault" = some (.ref C)
  xf : XfC K C
  te : PySem.W.exmOne K (.ref C) (.ref C) = some true
  nl : PySem.W.findIn K (.ref C) "line" = some none
  nc : PySem.W.findIn K (.ref C) "column" = some none
theorem err_line : errFs.lookup ("line" : Str) = some (V.int 1) := by decide +kernel
theorem err_col : errFs.lookup ("column" : Str) = some (V.int 1) := by decide +kernel
section
variable {P : Program} {w : World} {K : PySem.W.Frag} {mg : Str → Option Value} {base : Heap}
theorem scLRead : FnScope ["_law_names", "_law_text", "wrong"] ["_law_names", "_law_text"] (defScope sLRead) := ⟨rfl, rfl, rfl, by decide +kernel, rfl, by decide +kernel, by decide +kernel⟩
theorem ok_lread {f fr C T : Addr} {fd fdr : FuncData} (F : Fun K "_law_read" "_law_read" sLRead f fd) (GR : FnOk P w K mg base (L2.CX P w) 6 fr fdr ["names", "text"] (spReadEx K C T)) (cR : CallF K mg "read_expression" fr fdr ["names", "text"]) (ct : CatchT K mg C) :
    FnOk P w K mg base CX0 7 f fd ["_law_names", "_law_text"] (spLRead K T) := by
  refine F.ok scLRead (fun vs H Q E h => ?_) (fun cdv A outer s H vs Q E hr h => ?_)
  · obtain ⟨nm, z, names, lead, its, rfl, _⟩ := h
    rfl
  · obtain ⟨nm, z, names, lead, its, rfl, hS, hN, h5, hall, hne, hl9, hz, hcs, hT, kQ, kE⟩ := h
    refine ⟨_, pss_one (ps_try_as (i := 2) (tb := fun W => tRet (tCallS (spReadEx K C T) (WE W) (tCons (tVar 0) (tCons (tVar 1) tNil)))) (ts := fun a cls d => tRet (tTup (tCons (tXf a cls d C "line" (tVar 2)) (tCons (tXf a cls d C "column" (tVar 2)) tNil))))
        (Wout := fun _ _ _ _ => False) rfl rfl scLRead.nd rfl rfl ⟨rfl, by decide, Or.inl ct.gl⟩ takes0
        (fun W pn xe tk _ => pss_one (ps_ret (by exact (pe_callS GR hr rfl cR.gl cR.kp cR.bd (fun σ => passAt tk σ) (by exact (pa_cons (pv 0) (pa_cons (pv 1) pa_nil)))))))
        (fun a oe cls d pn hz9 hf => pss_one (ps_ret (by exact (pe_tup (pa_cons (pe_xf ct.xf ct.nl hz9 hf (pv 2)) (pa_cons (pe_xf ct.xf ct.nc hz9 hf (pv 2)) pa_nil))))))), ?_⟩
    refine ⟨_, rfl, _, rfl, nm, z, names, lead, its, rfl, hS, hN, h5, hall, hne, hl9, hz, hcs, hT, kQ, fun hsh H' d s t hd => ?_⟩
    refine ⟨true, ct.te, fun _ a ha => ?_, fun q => Bool.noConfusion q⟩
    refine ⟨_, rfl, rfl, rfl, d, errFs, _, rfl, hd, err_line, _, rfl, rfl, rfl, d, errFs, _, rfl, hd, err_col, (by show 2 ≤ sizeLine; decide), fun p hp => ?_⟩
    exact kE hsh _ p (s.trans (Same.n (same_new hp))) (TabG.same (same_new hp) t) upd_same
end
end Tp
/-! The law: what is asked of each expression. -/
namespace Tp
open PySem PySem.Spec PyProof.Rows L2
abbrev sLaw : Stmt := topS 36
def forBody (s : Stmt) : List Stmt := match s with
  | .For _ _ b _ _ => b
  | _ => []
abbrev lawFor : Stmt := (defBody sLaw).getD 1 (.Pass ⟨0, 0, 0, 0⟩)
abbrev lawIn : Stmt := (forBody lawFor).getD 4 (.Pass ⟨0, 0, 0, 0⟩)
/-! ### data that are compared -/
def dQ (q : Q2) : PyData := .tuple [.int q.1, .int q.2]
def dV (v : List Q2) : PyData := match v with
  | [] => .none
  | q :: qs => .tuple [dQ q, .tuple (qs.map dQ)]
theorem dp_fr {K : PySem.W.Frag} {H : Hp} {a : Addr} {q : Q2} (h : IsFr H a q) : Dp K H (.ref a) (dQ q) := .tup (.inl (.inl h)) (.cons (.int _) (.cons (.int _) .nil))
theorem dp_frs {K : PySem.W.Frag} {H : Hp} : ∀ {as : List Addr} {qs : List Q2}, FrsAt H as qs → DpAll K H (as.map V.ref) (qs.map dQ)
  | _, _, .nil => .nil
  | _, _, .cons h r => .cons (dp_fr h) (dp_frs r)
theorem dp_val {K : PySem.W.Frag} {H : Hp} {a : Addr} {v : List Q2} (h : IsVal H a v) : Dp K H (.ref a) (dV v) := by
  obtain ⟨b, c, q, qs, rfl, e1, e2, as, e3, e4⟩ := h
  exact .tup (.inl (.inl e1)) (.cons (dp_fr e2) (.cons (.tup (.inl (.inl e3)) (dp_frs e4)) .nil))
theorem lay_q (q : Q2) : (dQ q).canLay0 = true := by
  unfold dQ
  simp [PyData.canLay0, PyData.canLayAll0]
theorem lay_qs : ∀ qs : List Q2, PyData.canLayAll0 (qs.map dQ) = true
  | [] => by simp [PyData.canLayAll0]
  | q :: qs => by
    show PyData.canLayAll0 (dQ q :: qs.map dQ) = true
    rw [PyData.canLayAll0, lay_q, lay_qs qs]
    rfl
theorem lay_v (v : List Q2) : (dV v).canLay0 = true := by
  cases v with
  | nil => simp [dV, PyData.canLay0]
  | cons q qs =>
    show PyData.canLay0 (.tuple [dQ q, .tuple (qs.map dQ)]) = true
    rw [PyData.canLay0, PyData.canLayAll0, PyData.canLayAll0, PyData.canLayAll0, lay_q, PyData.canLay0, lay_qs]
    rfl
theorem dep_q (q : Q2) : PyData.depth (dQ q) ≤ 1 := by
  unfold dQ
  simp [PyData.depth, PyData.depthAll]
theorem dep_qs : ∀ qs : List Q2, PyData.depthAll (qs.map dQ) ≤ 1
  | [] => by simp [PyData.depthAll]
  | q :: qs => by
    show PyData.depthAll (dQ q :: qs.map dQ) ≤ 1
    rw [PyData.depthAll]
    exact Nat.max_le.mpr ⟨dep_q q, dep_qs qs⟩
theorem dep_v (v : List Q2) : PyData.depth (dV v) ≤ 3 := by
  cases v with
  | nil => simp [dV, PyData.depth]
  | cons q qs =>
    show PyData.depth (.tuple [dQ q, .tuple (qs.map dQ)]) ≤ 3
    have h1 := dep_q q
    have h2 := dep_qs qs
    rw [PyData.depth, PyData.depthAll, PyData.depthAll, PyData.depthAll, PyData.depth]
    omega
theorem shaped_of {d : PyData} (h1 : d.canLay0 = true) (h2 : d.depth ≤ 64) : SeqAt.shaped d = true := by
  unfold SeqAt.shaped
  rw [h1, decide_eq_true h2]
  rfl
theorem shaped_v (v : List Q2) : SeqAt.shaped (dV v) = true := shaped_of (lay_v v) (Nat.le_trans (dep_v v) (by decide))
theorem eqv_v (v : List Q2) : PyData.eqv (dV v) (dV v) = true := SeqAt.eqv_refl _ (lay_v v)
/-! ### the names -/
def everyL : List Str := ["w", "height_2", "W", "s0"]
def namesOkB (names : List Str) : Bool := (names.all fun a => match a.cps.toList with
  | [] => false
  | c :: r => isL c && r.all isN) && decide names.Nodup
theorem names_by {names : List Str} (h : namesOkB names = true) : NamesOk names := by
  unfold namesOkB at h
  rw [Bool.and_eq_true, List.all_eq_true, decide_eq_true_eq] at h
  obtain ⟨h1, h2⟩ := h
  refine ⟨fun i a ha => ?_, fun i j a hi hj => nd_ix h2 hi hj⟩
  have q := h1 a (List.mem_of_getElem? ha)
  cases e : a.cps.toList with
  | nil =>
    rw [e] at q
    cases q
  | cons c r =>
    rw [e] at q
    have q2 : (isL c && r.all isN) = true := q
    rw [Bool.and_eq_true, List.all_eq_true] at q2
    exact ⟨c, r, rfl, q2.1, q2.2⟩
def namesGood (names : List Str) : Bool := namesOkB names && (decide (names.length ≤ 4) && (names.all (fun a => decide (a.length ≤ 20)) && (PyData.canLayAll0 (names.map PyData.str) && decide (PyData.depth (.list (names.map PyData.str)) ≤ 64))))
theorem every_good (m : Nat) (h : m < 5) : namesGood (everyL.take m) = true := by
  have hm : m = 0 ∨ m = 1 ∨ m = 2 ∨ m = 3 ∨ m = 4 := by omega
  rcases hm with rfl | rfl | rfl | rfl | rfl <;> decide +kernel
structure NGood (names : List Str) : Prop where
  ok : NamesOk names
  l4 : names.length ≤ 4
  l20 : ∀ a ∈ names, a.length ≤ 20
  lay : (PyData.list (names.map PyData.str)).canLay0 = true
  dep : PyData.depth (.list (names.map PyData.str)) ≤ 64
theorem ngood {names : List Str} (h : namesGood names = true) : NGood names := by
  unfold namesGood at h
  simp only [Bool.and_eq_true, decide_eq_true_eq, List.all_eq_true] at h
  obtain ⟨h1, h2, h3, h4, h5⟩ := h
  exact ⟨names_by h1, h2, h3, by rw [PyData.canLay0]; exact h4, h5⟩
theorem dp_names {K : PySem.W.Frag} {H : Hp} : ∀ names : List Str, DpAll K H (names.map V.str) (names.map PyData.str)
  | [] => .nil
  | a :: r => .cons (.str a) (dp_names r)
theorem cut_one (as : List Addr) : cutV (as.map V.ref) (some 1) none = (as.drop 1).map V.ref := by
  unfold cutV
  rw [show HT.sIx (as.map V.ref).length 0 (some 1) = min 1 (as.map V.ref).length from HT.sIx_nat (as.map V.ref).length 0 1, HT.sIx_none]
  cases as with
  | nil => rfl
  | cons x r =>
    rw [show min 1 (List.map V.ref (x :: r)).length = 1 by
      rw [List.length_map, List.length_cons]
      omega]
    show (List.take ((List.map V.ref (x :: r)).length - 1) (r.map V.ref)) = r.map V.ref
    refine List.take_of_length_le ?_
    rw [List.length_map, List.length_map, List.length_cons]
    omega
theorem cut_to (xs : List Str) (m : Nat) : cutV (xs.map V.str) none (some (m : Int)) = (xs.take m).map V.str := by
  unfold cutV
  rw [HT.sIx_none, HT.sIx_nat, List.drop_zero, Nat.sub_zero, List.map_take, List.length_map]
  by_cases h : m ≤ xs.length
  · rw [Nat.min_eq_left h]
  · rw [Nat.min_eq_right (by omega), List.take_of_length_le (by rw [List.length_map]; omega), List.take_of_length_le (by rw [List.length_map]; omega)]
end Tp
/-! The law, behind the loop over the terms: what is asked. -/
namespace Tp
open PySem PySem.Spec PyProof.Rows L2
abbrev NLaw : List Str := ["_law_script", "_law_every", "_law_k", "_law_draw", "_law_names", "_law_j", "_law_found", "_law_text", "_law_part", "_law_sign", "_law_given", "_law_due", "_law_short_here"]
theorem scLaw : FnScope NLaw ["_law_script"] (defScope sLaw) := ⟨rfl, rfl, rfl, by decide +kernel, rfl, by decide +kernel, by decide +kernel⟩
/-- what the law asks of its surroundings -/
structure LawT (P : Program) (w : World) (K : PySem.W.Frag) (mg : Str → Option Value) (base : Heap) (T : Addr) (fs fls flr fn ft : Addr) (fds fdls fdlr fdn fdt : FuncData) : Prop where
  GS : FnOk P w K mg base CX0 2 fs fds ["found"] (spShort T)
  cS : CallF K mg "is_short" fs fds ["found"]
  GL : FnOk P w K mg base CX0 2 fls fdls ["_law_row"] spLShort
  cL : CallF K mg "_law_short" fls fdls ["_law_row"]
  GR : FnOk P w K mg base CX0 7 flr fdlr ["_law_names", "_law_text"] (spLRead K T)
  cR : CallF K mg "_law_read" flr fdlr ["_law_names", "_law_text"]
  GN : FnOk P w K mg base CX0 1 fn fdn ["_law_script", "_law_k"] (spLNum K)
  cN : CallF K mg "_law_number" fn fdn ["_law_script", "_law_k"]
  GT : FnOk P w K mg base CX0 3 ft fdt ["_law_draw", "_law_names", "_law_found", "_law_sign"] (spLTerm K)
  cT : CallF K mg "_law_term" ft fdt ["_law_draw", "_law_names", "_law_found", "_law_sign"]
  li : mg "list" = none
  tu : mg "tuple" = none
  isi : mg "isinstance" = none
  bo : mg "bool" = none
  it : mg "int" = none
  le : mg "len" = none
  ra : mg "range" = none
section
variable {P : Program} {w : World} {K : PySem.W.Frag} {mg : Str → Option Value} {base : Heap} {T fs fls flr fn ft : Addr} {fds fdls fdlr fdn fdt : FuncData}
theorem law5 (L : LawT P w K mg base T fs fls flr fn ft fds fdls fdlr fdn fdt) (f : Addr) (cdv : Value) (A : Around) (outer : List Env) (s : Shared) (H : Hp) (E : XK) (hr : Room 7 (A.deeper (envOfC "law" (defScope sLaw) s.heap.objs.size f cdv))) :
    ∃ t5, PSs (cxOf CX0 P w K mg base NLaw "law" (defScope sLaw) f cdv A outer s H E).nox ((forBody lawFor).drop 5) t5 ∧
      ∀ (D : Ends) (names : List Str) (lead : Bool) (its : List It) (z : Str) (nm fo : Addr) (o0 o1 o2 o3 o5 o8 o9 o10 o11 o12 : Option V) (H1 : Hp), NGood names → AllOk names.length its → its ≠ [] → its.length ≤ 9 → z.length ≤ 80000 → z.cps.toList = exT names lead its →
        H1 nm = some (.lst (names.map V.str)) → IsRow H1 fo (vecOf names.length its) → GxR.TabG H1 T →
        (∀ (p10 p11 p12 : Option V) (H' : Hp), SameN H1 H' → GxR.TabG H' T → D.nx [o0, o1, o2, o3, some (.ref nm), o5, some (.ref fo), some (.str z), o8, o9, p10, p11, p12] H') →
        t5 D [o0, o1, o2, o3, some (.ref nm), o5, some (.ref fo), some (.str z), o8, o9, o10, o11, o12] H1 := by
  have hr2 : Room 2 (A.deeper (envOfC "law" (defScope sLaw) s.heap.objs.size f cdv)) := hr.mono (by decide)
  have hu : (A.deeper (envOfC "law" (defScope sLaw) s.heap.objs.size f cdv)).units + 64 < cLine := by
    have := hr.un
    omega
  refine ⟨_, pss_cons (ps_set (i := 10) scLaw.nd rfl (.inl rfl) (pe_callTy call_list_of (by rfl) L.li (by decide +kernel) (pa_cons (pv 4) pa_nil)))
    (pss_cons (ps_set (i := 11) scLaw.nd rfl (.inl rfl) (pe_tup (pa_cons (pe_ix ix_list (pv 6) pe_int (fun _ _ => rfl)) (pa_cons (pe_callTy call_tuple_of (by rfl) L.tu (by decide +kernel) (pa_cons (pe_slice sl_list (pv 6) (po_some pe_int) po_none) pa_nil)) pa_nil))))
    (pss_cons (ps_set (i := 12) scLaw.nd rfl (.inl rfl) (pe_call L.GL hr2 (by rfl) L.cL.gl L.cL.kp L.cL.bd .nil pass0 (pa_cons (pv 6) pa_nil)))
    (pss_one (ps_if (PW.pt (pw_or (pt_not (pt_val (pe_callB call_isi (by rfl) L.isi (by decide +kernel) (pa_cons (pe_call L.GS hr2 (by rfl) L.cS.gl L.cS.kp L.cS.bd .nil pass0 (pa_cons (pv 11) pa_nil)) (pa_cons (pe_bltn (v := .ty "bool") (by rfl) L.bo (by decide +kernel) rfl) pa_nil)))))
        (pw_or (pt_cmpR op_ne (pe_call L.GS hr2 (by rfl) L.cS.gl L.cS.kp L.cS.bd .nil pass0 (pa_cons (pv 11) pa_nil)) (pv 12) (nomark _))
        (pw_or (pt_cmpR (op_neD hu) (pe_call L.GR hr (by rfl) L.cR.gl L.cR.kp L.cR.bd .nil pass0 (pa_cons (pv 10) (pa_cons (pv 7) pa_nil))) (pe_ifExp (pt_val (pv 12)) (pv 11) (pe_tup (pa_cons pe_int (pa_cons pe_int pa_nil)))) (nomark _))
        (pw_or1 (pt_cmpR (op_neD hu) (pv 10) (pv 4) (nomark _))))))) (pss_one (ps_ret pe_bl)) pss_nil)))), ?_⟩
  intro D names lead its z nm fo o0 o1 o2 o3 o5 o8 o9 o10 o11 o12 H1 NG hall hne hl9 hz hcs enm ⟨as, eo, fa⟩ hT kD
  have h4 := NG.l4
  have VO := vecOf_ok hall hl9
  -- given = list(names)
  refine ⟨_, rfl, nm, _, rfl, .inl (.inl (.inl enm)), fun gv hgv => ?_⟩
  have s1 : Same H1 (upd H1 gv (.lst (names.map V.str))) := same_new hgv
  have eg : (upd H1 gv (.lst (names.map V.str))) gv = some (.lst (names.map V.str)) := upd_same
  generalize upd H1 gv (.lst (names.map V.str)) = H2 at s1 eg ⊢
  -- due = (found[0], tuple(found[1:]))
  have hv0 := VO.get (p := 0) (Nat.zero_le _)
  obtain ⟨q, qs, ev⟩ : ∃ q qs, vecOf names.length its = q :: qs := by
    have hl := VO.len
    cases e : vecOf names.length its with
    | nil =>
      rw [e] at hl
      cases hl
    | cons q qs => exact ⟨q, qs, rfl⟩
  rw [ev] at fa
  obtain ⟨b0, bs, rfl, fb0, fbs⟩ : ∃ b0 bs, as = b0 :: bs ∧ IsFr H1 b0 q ∧ FrsAt H1 bs qs := by
    cases fa with
    | cons h r => exact ⟨_, _, rfl, h, r⟩
  refine ⟨_, rfl, fo, _, _, _, rfl, rfl, .inl (.inl (s1 _ _ eo)), ref_at (i := 0) rfl rfl, _, rfl, _, rfl, fo, _, rfl, .inl (.inl (s1 _ _ eo)), fun l2 hl2 => ?_⟩
  rw [cut_one]
  have s2 : Same H2 (upd H2 l2 (.lst (((b0 :: bs).drop 1).map V.ref))) := same_new hl2
  refine ⟨l2, _, rfl, .inl ⟨.inl (.inl upd_same), fun l3 hl3 => ?_⟩⟩
  have s3 : Same (upd H2 l2 (.lst (((b0 :: bs).drop 1).map V.ref))) (upd (upd H2 l2 (.lst (((b0 :: bs).drop 1).map V.ref))) l3 (.tup (((b0 :: bs).drop 1).map V.ref))) := same_new hl3
  have s123 := s1.trans (s2.trans s3)
  refine ⟨(by show 2 ≤ sizeLine; decide), fun due hdue => ?_⟩
  obtain ⟨s4, dv⟩ := val_made s123 (fb0.mono s123) (s := l3) (qs := qs) ⟨bs, upd_same, fbs.same s123⟩ hdue
  have s24 : Same H2 (upd (upd (upd H2 l2 (.lst (((b0 :: bs).drop 1).map V.ref))) l3 (.tup (((b0 :: bs).drop 1).map V.ref))) due (.tup [.ref b0, .ref l3])) := s2.trans (s3.trans (same_new hdue))
  generalize upd (upd (upd H2 l2 (.lst (((b0 :: bs).drop 1).map V.ref))) l3 (.tup (((b0 :: bs).drop 1).map V.ref))) due (.tup [.ref b0, .ref l3]) = H3 at s4 dv s24 ⊢
  rw [← ev] at dv
  have eg3 := s24 _ _ eg
  have hT3 := TabG.same s4 hT
  have row3 : IsRow H3 fo (vecOf names.length its) := by
    rw [ev]
    exact ⟨b0 :: bs, s4 _ _ eo, .cons (fb0.mono s4) (fbs.same s4)⟩
  -- short_here = _law_short(found)
  refine ⟨_, rfl, fo, _, rfl, row3, by rw [VO.len]; omega, VO.sz, fun H4 s34 => ?_⟩
  have dv4 := dv.same s34
  have hT4 := TabG.same s34 hT3
  -- is_short(due)
  refine ⟨_, rfl, due, _, rfl, dv4, by rw [VO.len]; omega, VO.sz, hT4, fun H5 s45 hT5 => ?_⟩
  refine ⟨_, .ty "bool", .type "bool", .type "bool", true, rfl, .ty _, .base (.bl _), kit_ty (by decide +kernel), _, rfl, ?_⟩
  refine iteF ?_
  have s15 : SameN H1 H5 := (Same.n (s4.trans s34)).trans s45
  have dv5 := s45.val dv4
  refine ⟨_, rfl, due, _, rfl, dv5, by rw [VO.len]; omega, VO.sz, hT5, fun H6 s56 hT6 => ?_⟩
  refine ⟨_, rfl, rfl, _, rfl, ?_⟩
  refine iteNS rfl ?_
  have dv6 := s56.val dv5
  have eg6 := s56.lst (s45.lst (s34 _ _ eg3))
  have s16 := s15.trans s56
  -- given != names, once all else is equal
  have lastT : ∀ H7, SameN H6 H7 → GxR.TabG H7 T → tTest (tOp (rNeD K) (tVar 10) (tVar 4)) [o0, o1, o2, o3, some (.ref nm), o5, some (.ref fo), some (.str z), o8, o9, some (.ref gv), some (.ref due), some (.bl (shortV (vecOf names.length its)))] H7
      (fun b H' => if b = true then tRet (tC (.bl false)) D [o0, o1, o2, o3, some (.ref nm), o5, some (.ref fo), some (.str z), o8, o9, some (.ref gv), some (.ref due), some (.bl (shortV (vecOf names.length its)))] H'
        else D.nx [o0, o1, o2, o3, some (.ref nm), o5, some (.ref fo), some (.str z), o8, o9, some (.ref gv), some (.ref due), some (.bl (shortV (vecOf names.length its)))] H') := fun H7 s67 hT7 => by
    have dn : ∀ a : Addr, H7 a = some (.lst (names.map V.str)) → Dp K H7 (.ref a) (.list (names.map PyData.str)) := fun a e => .lst (.inl (.inl e)) (dp_names names)
    refine ⟨_, rfl, _, rfl, _, _, dn _ (s67.lst eg6), dn _ ((s16.trans s67).lst enm), shaped_of NG.lay NG.dep, shaped_of NG.lay NG.dep, _, rfl, ?_⟩
    rw [SeqAt.eqv_refl _ NG.lay]
    refine iteF ?_
    exact kD _ _ _ H7 (s16.trans s67) hT7
  refine ⟨_, rfl, _, rfl, gv, z, names, lead, its, rfl, .inl (.inl eg6), NG.ok, by omega, hall, hne, hl9, hz, hcs, hT6, fun hsh H7 p s67 hT7 hv => ?_, fun hsh H7 p s67 hT7 hp => ?_⟩
  · refine ⟨_, rfl, _, rfl, ?_⟩
    rw [hsh]
    refine iteT ?_
    refine ⟨_, rfl, dV (vecOf names.length its), dV (vecOf names.length its), dp_val hv, dp_val (s67.val dv6), shaped_v _, shaped_v _, _, rfl, ?_⟩
    rw [eqv_v]
    refine iteF ?_
    have q9 := lastT H7 s67 hT7
    rw [hsh] at q9
    exact q9
  · refine ⟨_, rfl, _, rfl, ?_⟩
    rw [hsh]
    refine iteF ?_
    refine ⟨(by show 2 ≤ sizeLine; decide), fun p2 hp2 => ?_⟩
    have d11 : SeqAt.shaped (dQ (1, 1)) = true := shaped_of (lay_q _) (Nat.le_trans (dep_q _) (by decide))
    refine ⟨dQ (1, 1), dQ (1, 1), dp_fr (q := (1, 1)) (same_new hp2 _ _ hp), dp_fr (q := (1, 1)) upd_same, d11, d11, _, rfl, ?_⟩
    rw [SeqAt.eqv_refl _ (lay_q (1, 1))]
    refine iteF ?_
    have s78 : Same H7 (upd H7 p2 (.tup [.int 1, .int 1])) := same_new hp2
    have q9 := lastT _ (s67.trans (Same.n s78)) (TabG.same s78 hT7)
    rw [hsh] at q9
    exact q9
end
end Tp
/-! The law's loop over the terms. -/
namespace Tp
open PySem PySem.Spec PyProof.Rows L2
/-- int(x // c) % m, x in slot i -/
def tDMi (i : Nat) (c m : Int) : TE := tOp rModA (tCB (fun xs H Q => (∃ i, xs = [.int i] ∧ Q (.int i) H) ∨ ∃ k, xs = [.bl k] ∧ Q (.int (if k then 1 else 0)) H) (tCons (tOp rFdA (tVar i) (tC (.int c))) tNil)) (tC (.int m))
theorem dmi_is {σ : L2.St} {H : Hp} {Q : VK} {i n : Nat} (c m : Nat) (hs : σ[i]? = some (some (.int (n : Int)))) (h0 : 0 < c) (h1 : c < 1073741824) (h2 : 0 < m) (h : Q (.int ((n / c % m : Nat) : Int)) H) : tDMi i (c : Int) (m : Int) σ H Q :=
  ⟨_, hs, n, c, rfl, rfl, h0, h1, .inl ⟨_, rfl, _, m, rfl, rfl, h2, h⟩⟩
theorem dmi_test {σ : L2.St} {H : Hp} {Q : Bool → Hp → Prop} {i n : Nat} (c m : Nat) (hs : σ[i]? = some (some (.int (n : Int)))) (h0 : 0 < c) (h1 : c < 1073741824) (h2 : 0 < m) (h : Q (decide (n / c % m = 0)) H) : tTest (tOp rEq (tDMi i (c : Int) (m : Int)) (tC (.int 0))) σ H Q := by
  refine dmi_is c m hs h0 h1 h2 ?_
  refine ⟨rfl, _, rfl, ?_⟩
  have e : decide (V.int ((n / c % m : Nat) : Int) = V.int 0) = decide (n / c % m = 0) := by
    refine decide_eq_decide.mpr ⟨fun z => ?_, fun z => by rw [z]; rfl⟩
    have := V.int.inj z
    omega
  rw [e]
  exact h
theorem blank_ifi {σ : L2.St} {H : Hp} {Q : VK} {i n : Nat} (c m : Nat) (hs : σ[i]? = some (some (.int (n : Int)))) (h0 : 0 < c) (h1 : c < 1073741824) (h2 : 0 < m) (h : Q (.str (bkS (decide (n / c % m = 0)))) H) :
    tIf (tTest (tOp rEq (tDMi i (c : Int) (m : Int)) (tC (.int 0)))) (tC (.str " ")) (tC (.str "")) σ H Q := by
  refine dmi_test c m hs h0 h1 h2 ?_
  cases e : decide (n / c % m = 0) with
  | true =>
    rw [e] at h
    exact iteT h
  | false =>
    rw [e] at h
    exact iteF h
theorem sign_if {σ : L2.St} {H : Hp} {Q : VK} {i n : Nat} (c m : Nat) (hs : σ[i]? = some (some (.int (n : Int)))) (h0 : 0 < c) (h1 : c < 1073741824) (h2 : 0 < m) (h : Q (.int (if decide (n / c % m = 0) = true then -1 else 1)) H) :
    tIf (tTest (tOp rEq (tDMi i (c : Int) (m : Int)) (tC (.int 0)))) (tUn (rU fun i => .int (-i)) (tC (.int 1))) (tC (.int 1)) σ H Q := by
  refine dmi_test c m hs h0 h1 h2 ?_
  cases e : decide (n / c % m = 0) with
  | true =>
    rw [e] at h
    exact iteT ⟨1, rfl, h⟩
  | false =>
    rw [e] at h
    exact iteF h
def pmS (neg : Bool) : Str := if neg = true then "-" else "+"
theorem pmS_codes (neg : Bool) : (pmS neg).cps.toList = [if neg = true then 45 else 43] := by
  cases neg <;> decide +kernel
theorem neg_test {σ : L2.St} {H : Hp} {Q : Bool → Hp → Prop} {i : Nat} {neg : Bool} (hs : σ[i]? = some (some (.int (if neg = true then -1 else 1)))) (h : Q neg H) : tTest (tOp (rI0 fun i j => .bl (decide (i < j))) (tVar i) (tC (.int 0))) σ H Q := by
  refine ⟨_, hs, _, _, rfl, rfl, _, rfl, ?_⟩
  have e : decide ((if neg = true then (-1 : Int) else 1) < 0) = neg := by cases neg <;> decide
  rw [e]
  exact h
theorem pm_if {σ : L2.St} {H : Hp} {Q : VK} {i : Nat} {neg : Bool} (hs : σ[i]? = some (some (.int (if neg = true then -1 else 1)))) (h : Q (.str (pmS neg)) H) :
    tIf (tTest (tOp (rI0 fun i j => .bl (decide (i < j))) (tVar i) (tC (.int 0)))) (tC (.str "-")) (tC (.str "+")) σ H Q := by
  refine neg_test hs ?_
  cases neg with
  | true => exact iteT h
  | false => exact iteF h
theorem app_len (x y : Str) : (x ++ y).length = x.length + y.length := by
  rw [len_codes, app_codes, List.length_append, ← len_codes, ← len_codes]
theorem bkS_len (b : Bool) : (bkS b).length ≤ 1 := by
  rw [len_codes, bkS_codes]
  exact bk_len b
theorem pmS_len (b : Bool) : (pmS b).length = 1 := by
  rw [len_codes, pmS_codes]
  rfl
/-- lists that stand beside found -/
theorem row_ne {H : Hp} {fo a : Addr} {v : List Q2} {xs : List V} (hf : IsRow H fo v) (hv : v ≠ []) (ha : H a = some (.lst xs)) (hx : ∀ b : Addr, xs.head? ≠ some (.ref b)) : a ≠ fo := fun z => by
  obtain ⟨as, e, f⟩ := hf
  rw [z, e] at ha
  have e2 : as.map V.ref = xs := by
    have z2 := Option.some.inj ha
    injection z2
  cases as with
  | nil =>
    have h9 := f.len
    cases v with
    | nil => exact hv rfl
    | cons q qs => cases h9
  | cons b bs =>
    rw [← e2] at hx
    exact hx b rfl
theorem seq_but {K : PySem.W.Frag} {H H' : Hp} {fo a : Addr} {v : List Q2} {xs : List V} (hf : IsRow H fo v) (hv : v ≠ []) (s : SameBut fo H H') (ha : SqL K H a xs) (hx : ∀ b : Addr, xs.head? ≠ some (.ref b)) : SqL K H' a xs := by
  rcases ha with (h | ⟨o, h⟩) | h
  · exact .inl (.inl (s _ _ (row_ne hf hv h hx) h))
  · refine .inl (.inr ⟨o, s _ _ (fun z => ?_) h⟩)
    obtain ⟨as, e, _⟩ := hf
    rw [z, e] at h
    cases h
  · exact .inr h
theorem head_ints (ns : List Int) (b : Addr) : (ns.map V.int).head? ≠ some (.ref b) := by
  cases ns with
  | nil => intro z; cases z
  | cons x r => intro z; cases z
theorem head_strs (ns : List Str) (b : Addr) : (ns.map V.str).head? ≠ some (.ref b) := by
  cases ns with
  | nil => intro z; cases z
  | cons x r => intro z; cases z
section
variable {P : Program} {w : World} {K : PySem.W.Frag} {mg : Str → Option Value} {base : Heap} {T fs fls flr fn ft : Addr} {fds fdls fdlr fdn fdt : FuncData}
/-- text = text + _law_term(part // 5, names, found, sign) + blank -/
theorem law_i3 (L : LawT P w K mg base T fs fls flr fn ft fds fdls fdlr fdn fdt) (f : Addr) (cdv : Value) (A : Around) (outer : List Env) (s : Shared) (H : Hp) (E : XK) (hr : Room 7 (A.deeper (envOfC "law" (defScope sLaw) s.heap.objs.size f cdv))) :
    ∃ t3, PSs (cxOf CX0 P w K mg base NLaw "law" (defScope sLaw) f cdv A outer s H E).nox ((forBody lawIn).drop 3) t3 ∧
      ∀ (D : Ends) (names : List Str) (v : List Q2) (z : Str) (nm fo : Addr) (pt : Nat) (neg : Bool) (o0 o1 o2 o3 o5 o10 o11 o12 : Option V) (H1 : Hp), NGood names → VOk names.length 400 v → z.length ≤ 50000 →
        H1 nm = some (.lst (names.map V.str)) → IsRow H1 fo v →
        (∀ (H' : Hp) (t : Tm) (eb : Bool) (z2 : Str), t.Ok names.length → z2.cps.toList = z.cps.toList ++ (t.text names ++ bk eb) → z2.length ≤ z.length + 101 → SameBut fo H1 H' → IsRow H' fo (stepV v ⟨neg, false, false, t⟩) →
          D.nx [o0, o1, o2, o3, some (.ref nm), o5, some (.ref fo), some (.str z2), some (.int (pt : Int)), some (.int (if neg = true then -1 else 1)), o10, o11, o12] H') →
        t3 D [o0, o1, o2, o3, some (.ref nm), o5, some (.ref fo), some (.str z), some (.int (pt : Int)), some (.int (if neg = true then -1 else 1)), o10, o11, o12] H1 := by
  have hr3 : Room 3 (A.deeper (envOfC "law" (defScope sLaw) s.heap.objs.size f cdv)) := hr.mono (by decide)
  refine ⟨_, pss_one (ps_set (i := 7) scLaw.nd rfl (.inl rfl) (pe_op op_add_str (pe_op op_add_str (pv 7) (pe_call L.GT hr3 (by rfl) L.cT.gl L.cT.kp L.cT.bd .nil pass0 (pa_cons (pe_op op_fdivA (pv 8) pe_int) (pa_cons (pv 4) (pa_cons (pv 6) (pa_cons (pv 9) pa_nil))))))
      (pe_ifExp (pt_cmpR op_eq (pe_op op_modA (pe_callTy call_int1 (by rfl) L.it (by decide +kernel) (pa_cons (pe_op op_fdivA (pv 8) pe_int) pa_nil)) pe_int) pe_int (nomark _)) pe_str pe_str))), ?_⟩
  intro D names v z nm fo pt neg o0 o1 o2 o3 o5 o10 o11 o12 H1 NG VO hz enm hrow kD
  refine ⟨_, rfl, _, rfl, pt, 5, rfl, rfl, by decide, by decide, _, rfl, _, rfl, _, rfl, nm, fo, pt / 5, names, v, neg, rfl, .inl (.inl enm), NG.l4, NG.l20, hrow, VO, fun H2 t z1 ht ez hz1 s2 r2 => ?_⟩
  refine ⟨_, _, rfl, rfl, small_line (by omega), ?_⟩
  refine blank_ifi 7 3 rfl (by decide) (by decide) (by decide) ?_
  generalize decide (pt / 7 % 3 = 0) = eb
  have hb := bkS_len eb
  refine ⟨_, _, rfl, rfl, small_line (by rw [app_len]; omega), ?_⟩
  refine kD H2 t eb (z ++ z1 ++ bkS eb) ht ?_ (by rw [app_len, app_len]; omega) s2 r2
  rw [app_codes, app_codes, bkS_codes, ez, List.append_assoc]
theorem vec_ne (n : Nat) {its : List It} {B : Nat} (h : VOk n B (vecOf n its)) : vecOf n its ≠ [] := fun e => by
  have := h.len
  rw [e] at this
  cases this
theorem sign_on {first neg sb eb : Bool} {t : Tm} (h : first = false ∨ neg = true) : (⟨neg, sb, eb, t⟩ : It).sign first = (if neg = true then 45 else 43) :: bk sb := if_neg (fun z => by
  obtain ⟨z8, z9⟩ := z
  rcases h with h | h
  · rw [h] at z8
    cases z8
  · have z6 : neg = false := z9
    rw [h] at z6
    cases z6)
/-- a turn of the loop over the terms -/
theorem law_i0 (L : LawT P w K mg base T fs fls flr fn ft fds fdls fdlr fdn fdt) (f : Addr) (cdv : Value) (A : Around) (outer : List Env) (s : Shared) (H : Hp) (E : XK) (hr : Room 7 (A.deeper (envOfC "law" (defScope sLaw) s.heap.objs.size f cdv))) :
    ∃ t0, PSs (cxOf CX0 P w K mg base NLaw "law" (defScope sLaw) f cdv A outer s H E).nox (forBody lawIn) t0 ∧
      ∀ (D : Ends) (names : List Str) (lead : Bool) (its : List It) (z : Str) (ns : List Int) (a nm fo : Addr) (i dr : Nat) (kz jz : Int) (o1 o8 o9 o10 o11 o12 : Option V) (H1 : Hp), NGood names → VOk names.length 400 (vecOf names.length its) → its.length ≤ 9 → z.length ≤ 40000 →
        z.cps.toList = exT names lead its → SqL K H1 a (ns.map V.int) → ns.length ≤ 63 → kz = (i : Int) → i ≤ 12 → jz = (its.length : Int) → H1 nm = some (.lst (names.map V.str)) → IsRow H1 fo (vecOf names.length its) →
        (∀ (H' : Hp) (x : It) (z2 : Str) (p8 p9 : Option V), x.t.Ok names.length → z2.cps.toList = exT names lead (its ++ [x]) → z2.length ≤ z.length + 103 → SameBut fo H1 H' → IsRow H' fo (vecOf names.length (its ++ [x])) →
          D.nx [some (.ref a), o1, some (.int kz), some (.int (dr : Int)), some (.ref nm), some (.int jz), some (.ref fo), some (.str z2), p8, p9, o10, o11, o12] H') →
        t0 D [some (.ref a), o1, some (.int kz), some (.int (dr : Int)), some (.ref nm), some (.int jz), some (.ref fo), some (.str z), o8, o9, o10, o11, o12] H1 := by
  have hr1 : Room 1 (A.deeper (envOfC "law" (defScope sLaw) s.heap.objs.size f cdv)) := hr.mono (by decide)
  obtain ⟨t3, h3, ok3⟩ := law_i3 L f cdv A outer s H E hr
  refine ⟨_, pss_cons (ps_set (i := 8) scLaw.nd rfl (.inl rfl) (pe_op op_addA (pe_call L.GN hr1 (by rfl) L.cN.gl L.cN.kp L.cN.bd .nil pass0 (pa_cons (pv 0) (pa_cons (pe_op op_add (pe_op op_add pe_int (pe_op op_mul pe_int (pv 2))) (pv 5)) pa_nil))) (pe_op op_fdivA (pv 3) pe_int)))
    (pss_cons (ps_set (i := 9) scLaw.nd rfl (.inl rfl) (pe_ifExp (pt_cmpR op_eq (pe_op op_modA (pe_callTy call_int1 (by rfl) L.it (by decide +kernel) (pa_cons (pe_op op_fdivA (pv 8) pe_int) pa_nil)) pe_int) pe_int (nomark _)) (pe_un un_neg pe_int) pe_int))
    (pss_cons (ps_if (PW.pt (pw_or (pt_cmpR op_gt (pv 5) pe_int (nomark _)) (pw_or1 (pt_cmpR op_lt (pv 9) pe_int (nomark _)))))
      (pss_one (ps_set (i := 7) scLaw.nd rfl (.inl rfl) (pe_op op_add_str (pe_op op_add_str (pv 7) (pe_ifExp (pt_cmpR op_lt (pv 9) pe_int (nomark _)) pe_str pe_str))
        (pe_ifExp (pt_cmpR op_eq (pe_op op_modA (pe_callTy call_int1 (by rfl) L.it (by decide +kernel) (pa_cons (pe_op op_fdivA (pv 8) pe_int) pa_nil)) pe_int) pe_int (nomark _)) pe_str pe_str)))) pss_nil) h3)), ?_⟩
  intro D names lead its z ns a nm fo i dr kz jz o1 o8 o9 o10 o11 o12 H1 NG VO hl9 hz hcs hS hn hk hi hj enm hrow kD
  -- part
  refine ⟨_, rfl, _, rfl, _, _, rfl, rfl, .inl ⟨by decide, by decide⟩, _, _, rfl, rfl, _, rfl, _, _, rfl, rfl, a, 12 + 9 * i + its.length, ns, ?_, hS, hn, by omega, fun n => ?_⟩
  · show [V.ref a, V.int (12 + 9 * kz + jz)] = [V.ref a, V.int ((12 + 9 * i + its.length : Nat) : Int)]
    rw [show 12 + 9 * kz + jz = ((12 + 9 * i + its.length : Nat) : Int) by omega]
  refine ⟨_, rfl, dr, 11, rfl, rfl, by decide, by decide, n, _, rfl, rfl, ?_⟩
  generalize n + dr / 11 = pt
  refine sign_if (i := 8) 2 2 rfl (by decide) (by decide) (by decide) ?_
  generalize decide (pt / 2 % 2 = 0) = neg
  -- behind the sign
  have fin : ∀ (z1 : Str) (sb : Bool), z1.cps.toList = exT names lead its ++ (⟨neg, sb, false, ⟨0, 0, 0, false, false, false⟩⟩ : It).sign its.isEmpty → z1.length ≤ z.length + 2 →
      t3 D [some (.ref a), o1, some (.int kz), some (.int (dr : Int)), some (.ref nm), some (.int jz), some (.ref fo), some (.str z1), some (.int (pt : Int)), some (.int (if neg = true then -1 else 1)), o10, o11, o12] H1 := fun z1 sb e1 e2 => by
    refine ok3 D names _ z1 nm fo pt neg _ _ _ _ _ _ _ _ H1 NG VO (by omega) enm hrow fun H' t eb z2 ht ez hz2 s2 r2 => ?_
    refine kD H' ⟨neg, sb, eb, t⟩ z2 _ _ ht ?_ (by omega) s2 ?_
    · rw [ez, e1, ex_snoc, List.append_assoc]
      rfl
    · rw [vec_snoc]
      exact r2
  refine ⟨_, rfl, _, _, rfl, rfl, _, rfl, ?_⟩
  have signed : its.isEmpty = false ∨ neg = true → tAsg (tOp (fun x y H Q => ∃ i j, x = .str i ∧ y = .str j ∧ i.length + j.length ≤ sizeLine ∧ Q (.str (i ++ j)) H) (tOp (fun x y H Q => ∃ i j, x = .str i ∧ y = .str j ∧ i.length + j.length ≤ sizeLine ∧ Q (.str (i ++ j)) H) (tVar 7) (tIf (tTest (tOp (rI0 fun i j => .bl (decide (i < j))) (tVar 9) (tC (.int 0)))) (tC (.str "-")) (tC (.str "+"))))
        (tIf (tTest (tOp rEq (tDMi 8 3 2) (tC (.int 0)))) (tC (.str " ")) (tC (.str "")))) (gName 7) { nx := t3 D, rt := D.rt, bk := D.bk, ct := D.ct }
        [some (.ref a), o1, some (.int kz), some (.int (dr : Int)), some (.ref nm), some (.int jz), some (.ref fo), some (.str z), some (.int (pt : Int)), some (.int (if neg = true then -1 else 1)), o10, o11, o12] H1 := fun hsn => by
    refine ⟨_, rfl, ?_⟩
    refine pm_if rfl ?_
    refine ⟨_, _, rfl, rfl, small_line (by rw [pmS_len]; omega), ?_⟩
    refine blank_ifi 3 2 rfl (by decide) (by decide) (by decide) ?_
    generalize decide (pt / 3 % 2 = 0) = sb
    have hb := bkS_len sb
    refine ⟨_, _, rfl, rfl, small_line (by rw [app_len, pmS_len]; omega), ?_⟩
    refine fin (z ++ pmS neg ++ bkS sb) sb ?_ (by rw [app_len, app_len, pmS_len]; omega)
    rw [app_codes, app_codes, pmS_codes, bkS_codes, hcs, sign_on hsn, List.append_assoc]
    rfl
  cases its with
  | nil =>
    refine iteFF (by show ¬ (0 : Int) < jz; rw [hj]; decide) ?_
    refine neg_test rfl ?_
    cases hneg : neg with
    | true =>
      refine iteT ?_
      have q := signed (.inr hneg)
      rw [hneg] at q
      exact q
    | false =>
      refine iteF ?_
      have q := fin z false (by rw [hcs, hneg]; exact (List.append_nil _).symm) (by omega)
      rw [hneg] at q
      exact q
  | cons y ys =>
    refine iteTT (by show (0 : Int) < jz; rw [hj, List.length_cons]; omega) ?_
    refine iteT ?_
    exact signed (.inl rfl)
end
end Tp
/-! The law's loop over the terms, and behind it. -/
namespace Tp
open PySem PySem.Spec PyProof.Rows L2
section
variable {P : Program} {w : World} {K : PySem.W.Frag} {mg : Str → Option Value} {base : Heap} {T fs fls flr fn ft : Addr} {fds fdls fdlr fdn fdt : FuncData}
theorem SameBut.refl {fo : Addr} {H : Hp} : SameBut fo H H := fun _ _ _ e => e
theorem SameBut.trans {fo : Addr} {H H1 H2 : Hp} (s : SameBut fo H H1) (t : SameBut fo H1 H2) : SameBut fo H H2 := fun b x hb e => t b x hb (s b x hb e)
theorem tab_ne {fo T : Addr} {H : Hp} {v : List Q2} (hf : IsRow H fo v) (hT : GxR.TabG H T) : T ≠ fo := fun z => by
  obtain ⟨as, e, _⟩ := hf
  obtain ⟨o, h, _⟩ := hT
  rw [z, e] at h
  cases h
theorem tab_but {fo T : Addr} {H H' : Hp} {v : List Q2} (hf : IsRow H fo v) (s : SameBut fo H H') (hT : GxR.TabG H T) : GxR.TabG H' T := by
  have n := tab_ne hf hT
  obtain ⟨o, h, t⟩ := hT
  exact ⟨o, s _ _ n h, t⟩
theorem allok_snoc {n : Nat} {its : List It} {x : It} (h : AllOk n its) (hx : x.t.Ok n) : AllOk n (its ++ [x]) := fun y hy => by
  rcases List.mem_append.mp hy with z | z
  · exact h y z
  · rw [List.mem_singleton] at z
    rw [z]
    exact hx
theorem law4 (L : LawT P w K mg base T fs fls flr fn ft fds fdls fdlr fdn fdt) (f : Addr) (cdv : Value) (A : Around) (outer : List Env) (s : Shared) (H : Hp) (E : XK) (hr : Room 7 (A.deeper (envOfC "law" (defScope sLaw) s.heap.objs.size f cdv))) :
    ∃ t4, PSs (cxOf CX0 P w K mg base NLaw "law" (defScope sLaw) f cdv A outer s H E).nox ((forBody lawFor).drop 4) t4 ∧
      ∀ (D : Ends) (names : List Str) (lead : Bool) (z : Str) (ns : List Int) (a nm fo : Addr) (i dr : Nat) (kz : Int) (o1 o5 o8 o9 o10 o11 o12 : Option V) (H1 : Hp), NGood names → z.length ≤ 1 →
        z.cps.toList = bk lead → SqL K H1 a (ns.map V.int) → ns.length ≤ 63 → kz = (i : Int) → i < 12 → H1 nm = some (.lst (names.map V.str)) → IsRow H1 fo (vecOf names.length []) → GxR.TabG H1 T →
        (∀ (p5 p7 p8 p9 p10 p11 p12 : Option V) (H2 H' : Hp), SameBut fo H1 H2 → SameN H2 H' → GxR.TabG H' T → D.nx [some (.ref a), o1, some (.int kz), some (.int (dr : Int)), some (.ref nm), p5, some (.ref fo), p7, p8, p9, p10, p11, p12] H') →
        t4 D [some (.ref a), o1, some (.int kz), some (.int (dr : Int)), some (.ref nm), o5, some (.ref fo), some (.str z), o8, o9, o10, o11, o12] H1 := by
  obtain ⟨t0, h0, ok0⟩ := law_i0 L f cdv A outer s H E hr
  obtain ⟨t5, h5, ok5⟩ := law5 L f cdv A outer s H E hr
  refine ⟨_, pss_cons (ps_for PassesOwn.never rfl (pi_range1 (by rfl) L.ra (pa_cons (pe_op op_addA pe_int (pe_op op_modA (pe_callTy call_int1 (by rfl) L.it (by decide +kernel) (pa_cons (pe_op op_fdivA (pv 3) pe_int) pa_nil)) pe_int)) pa_nil))
    (pg_name (i := 5) scLaw.nd rfl (.inl rfl)) h0) h5, ?_⟩
  intro D names lead z ns a nm fo i dr kz o1 o5 o8 o9 o10 o11 o12 H1 NG hz hcs hS hn hk hi enm hrow hT kD
  refine ⟨_, rfl, dr, 15, rfl, rfl, by decide, by decide, .inl ⟨_, rfl, _, 9, rfl, rfl, by decide, ?_⟩⟩
  have hm : dr / 15 % 9 < 9 := Nat.mod_lt _ (by decide)
  generalize dr / 15 % 9 = m at hm ⊢
  refine ⟨1, m, rfl, rfl, ?_⟩
  refine ⟨_, rfl, by omega, by omega, ?_⟩
  rw [Int.toNat_natCast]
  refine for_range (lo := 0) (n := 1 + m) (fun j σ H' => ∃ (its : List It) (z : Str) (p5 p8 p9 : Option V), σ = [some (.ref a), o1, some (.int kz), some (.int (dr : Int)), some (.ref nm), p5, some (.ref fo), some (.str z), p8, p9, o10, o11, o12] ∧ its.length = j ∧ AllOk names.length its ∧ z.cps.toList = exT names lead its ∧ z.length ≤ 1 + 103 * j ∧ SameBut fo H1 H' ∧ IsRow H' fo (vecOf names.length its))
    ⟨[], z, o5, o8, o9, rfl, rfl, (fun x hx => by cases hx), by rw [hcs]; exact (List.append_nil _).symm, by omega, SameBut.refl, hrow⟩ ?_ ?_
  · rintro j σ H' hj ⟨its, z2, p5, p8, p9, rfl, hl, hall, hc2, hz2, s2, r2⟩
    have VO := vecOf_ok hall (show its.length ≤ 9 by omega)
    have ne := vec_ne names.length (vecOf_ok (n := names.length) (its := []) (fun x hx => by cases hx) (by decide))
    refine ok0 _ names lead its z2 ns a nm fo i dr kz (0 + (j : Int)) _ _ _ _ _ _ H' NG (VO.mono (by decide)) (by omega) (by omega) hc2 (seq_but hrow ne s2 hS (head_ints ns)) hn hk (by omega) (by omega) (s2 _ _ (row_ne hrow ne enm (head_strs names)) enm) r2 fun H3 x z3 p8 p9 hx hc3 hz3 s3 r3 => ?_
    exact ⟨its ++ [x], z3, _, p8, p9, rfl, by rw [List.length_append, List.length_singleton, hl], allok_snoc hall hx, hc3, by omega, s2.trans s3, r3⟩
  · rintro σ H' ⟨its, z2, p5, p8, p9, rfl, hl, hall, hc2, hz2, s2, r2⟩
    have ne := vec_ne names.length (vecOf_ok (n := names.length) (its := []) (fun x hx => by cases hx) (by decide))
    refine ok5 D names lead its z2 nm fo _ _ _ _ _ _ _ _ _ _ H' NG hall (fun z => by
      rw [z] at hl
      have z2 : 0 = 1 + m := hl
      omega) (by omega) (by omega) hc2 (s2 _ _ (row_ne hrow ne enm (head_strs names)) enm) r2 (tab_but hrow s2 hT) fun p10 p11 p12 H4 s4 t4 => ?_
    exact kD _ _ _ _ _ _ _ H' H4 s2 s4 t4
end
end Tp
/-! The law. -/
namespace Tp
open PySem PySem.Spec PyProof.Rows L2
def spLaw (K : PySem.W.Frag) (T : Addr) : Sp := fun vs H Q _ => ∃ (a : Addr) (ns : List Int), vs = [.ref a] ∧ SqL K H a (ns.map V.int) ∧ ns.length ≤ 63 ∧ GxR.TabG H T ∧ ∀ H', Q (.bl true) H'
section
variable {P : Program} {w : World} {K : PySem.W.Frag} {mg : Str → Option Value} {base : Heap} {T fs fls flr fn ft : Addr} {fds fdls fdlr fdn fdt : FuncData}
theorem vec_zero (n : Nat) : vecOf n [] = zeros (n + 1) := rfl
theorem ok_law (L : LawT P w K mg base T fs fls flr fn ft fds fdls fdlr fdn fdt) {f : Addr} {fd : FuncData} (F : Fun K "law" "law" sLaw f fd) : FnOk P w K mg base CX0 8 f fd ["_law_script"] (spLaw K T) := by
  refine F.ok scLaw (fun vs H Q E h => ?_) (fun cdv A outer s H vs Q E hr h => ?_)
  · obtain ⟨a, ns, rfl, _⟩ := h
    rfl
  · obtain ⟨a, ns, rfl, hS, hn, hT, q⟩ := h
    obtain ⟨t4, h4, ok4⟩ := law4 L f cdv A outer s H E hr
    have hr1 : Room 1 (A.deeper (envOfC "law" (defScope sLaw) s.heap.objs.size f cdv)) := hr.mono (by decide)
    refine ⟨_, pss_cons (ps_set (i := 1) scLaw.nd rfl (.inl rfl) (pe_lst (pa_cons pe_str (pa_cons pe_str (pa_cons pe_str (pa_cons pe_str pa_nil))))))
      (pss_cons (ps_for PassesOwn.never rfl (pi_range1 (by rfl) L.ra (pa_cons pe_int pa_nil)) (pg_name (i := 2) scLaw.nd rfl (.inl rfl))
        (pss_cons (ps_set (i := 3) scLaw.nd rfl (.inl rfl) (pe_call L.GN hr1 (by rfl) L.cN.gl L.cN.kp L.cN.bd .nil pass0 (pa_cons (pv 0) (pa_cons (pv 2) pa_nil))))
        (pss_cons (ps_set (i := 4) scLaw.nd rfl (.inl rfl) (pe_slice sl_list (pv 1) po_none (po_some (pe_op op_modA (pe_callTy call_int1 (by rfl) L.it (by decide +kernel) (pa_cons (pv 3) pa_nil)) pe_int))))
        (pss_cons (ps_setLc (i := 6) (own := [("_law_j", 5)]) (g := gName 5) (tt := tYes) rfl scLaw.nd rfl rfl (sw_true rfl rfl rfl (by decide +kernel))
            (pi_range1 (by rfl) L.ra (pa_cons (pe_op op_add (pe_callB call_len_seq (by rfl) L.le PySem.boot_len (pa_cons (pv 4) pa_nil)) pe_int) pa_nil)) (blkOk_by (N := NLaw) (sc := defScope sLaw) (by decide +kernel))
            (fun _ _ _ _ _ => pg_name (i := 5) scLaw.nd rfl (Or.inl rfl)) (fun _ _ _ _ _ => pts_nil) (fun _ _ _ _ _ => pe_tup (pa_cons pe_int (pa_cons pe_int pa_nil))))
        (pss_cons (ps_set (i := 7) scLaw.nd rfl (.inl rfl) (pe_ifExp (pt_cmpR op_eq (pe_op op_modA (pe_callTy call_int1 (by rfl) L.it (by decide +kernel) (pa_cons (pe_op op_fdivA (pv 3) pe_int) pa_nil)) pe_int) pe_int (nomark _)) pe_str pe_str)) h4)))))
      (pss_one (ps_ret pe_bl))), ?_⟩
    refine ⟨(by show 4 ≤ sizeLine; decide), fun ev hev => ?_⟩
    have s0 : Same H (upd H ev (.lst [.str "w", .str "height_2", .str "W", .str "s0"])) := same_new hev
    have eev : (upd H ev (.lst [.str "w", .str "height_2", .str "W", .str "s0"])) ev = some (.lst (everyL.map V.str)) := upd_same
    have hS0 := (Same.n s0).seq hS
    have hT0 := TabG.same s0 hT
    generalize upd H ev (.lst [.str "w", .str "height_2", .str "W", .str "s0"]) = H0 at s0 eev hS0 hT0 ⊢
    refine ⟨12, rfl, by omega, by omega, ?_⟩
    refine for_range (lo := 0) (n := 12) (fun _ σ H' => ∃ (p2 p3 p4 p5 p6 p7 p8 p9 p10 p11 p12 : Option V), σ = [some (.ref a), some (.ref ev), p2, p3, p4, p5, p6, p7, p8, p9, p10, p11, p12] ∧ SameN H0 H' ∧ GxR.TabG H' T)
      ⟨none, none, none, none, none, none, none, none, none, none, none, rfl, SameN.refl _, hT0⟩ ?_ ?_
    · rintro k σ H1 hk ⟨p2, p3, p4, p5, p6, p7, p8, p9, p10, p11, p12, rfl, s1, hT1⟩
      -- draw
      refine ⟨_, rfl, _, rfl, a, k, ns, ?_, s1.seq hS0, hn, by omega, fun dr => ?_⟩
      · show [V.ref a, V.int (0 + (k : Int))] = [V.ref a, V.int (k : Int)]
        rw [Int.zero_add]
      -- names
      refine ⟨_, rfl, _, rfl, .inl ⟨_, rfl, dr, 5, rfl, rfl, by decide, _, rfl, ev, _, rfl, .inl (.inl (s1.lst eev)), fun nm hnm => ?_⟩⟩
      rw [cut_to]
      have NG := ngood (every_good (dr % 5) (Nat.mod_lt _ (by decide)))
      generalize everyL.take (dr % 5) = names at NG ⊢
      have s2 : Same H1 (upd H1 nm (.lst (names.map V.str))) := same_new hnm
      have enm : (upd H1 nm (.lst (names.map V.str))) nm = some (.lst (names.map V.str)) := upd_same
      generalize upd H1 nm (.lst (names.map V.str)) = H2 at s2 enm ⊢
      have hT2 := TabG.same s2 hT1
      -- found
      refine ⟨_, rfl, nm, _, rfl, .inl (.inl (.inl enm)), _, _, rfl, rfl, (((names.length + 1 : Nat) : Int)), ?_, by have := NG.l4; omega, by have := NG.l4; omega, fun D hD => ?_⟩
      · rw [List.length_map]
        rfl
      rw [Int.toNat_natCast]
      refine lc_range (lo := 0) (n := names.length + 1) (fun i H' => Made H2 D (zeros i) H') (Made.start hD) (fun i H3 hi m => ?_) fun H3 m => ?_
      · refine ⟨rfl, yesT ?_⟩
        refine iteT ?_
        refine ⟨(by show 2 ≤ sizeLine; decide), fun p hp => ?_⟩
        rw [zeros_snoc]
        exact Made.more hD m (same_new hp) upd_same (by rw [zeros_len]; have := NG.l4; omega)
      · have s3 := m.same
        refine blank_ifi (i := 3) 5 3 rfl (by decide) (by decide) (by decide) ?_
        generalize decide (dr / 5 % 3 = 0) = lead
        have s23 : SameN H1 H3 := (Same.n s2).trans (Same.n s3)
        refine ok4 _ names lead (bkS lead) ns a nm D k dr (0 + (k : Int)) _ _ _ _ _ _ _ H3 NG (bkS_len lead) (bkS_codes lead) (s23.seq (s1.seq hS0)) hn (by omega) hk (s3 _ _ enm) m.lst (TabG.same s3 hT2) fun q5 q7 q8 q9 q10 q11 q12 H4 H5 s4 s5 hT5 => ?_
        refine ⟨_, _, _, q5, _, q7, q8, q9, q10, q11, q12, rfl, ?_, hT5⟩
        refine s1.trans (SameN.trans ?_ s5)
        intro b o hb e
        have hbD : b ≠ D := ne_of_none (s2 _ _ e) hD
        exact s4 _ _ hbD (s3 _ _ (s2 _ _ e))
    · rintro σ H1 ⟨p2, p3, p4, p5, p6, p7, p8, p9, p10, p11, p12, rfl, _, _⟩
      exact q _
end
end Tp
/-! The end. -/
namespace Tp
open PySem PySem.Spec PyProof.Rows L2
/-- an error of the class at S is what «except S» names -/
theorem exm_self {K : PySem.W.Frag} {S : Addr} (h1 : PySem.W.subIn K (.ref S) (.type "BaseException") = some true) (h2 : PySem.W.isClsIn K S = true) (h3 : PySem.W.typeIn K (.ref S) = some (.type "type")) (h4 : PySem.W.subIn K (.ref S) (.ref S) = some true) :
    PySem.W.exmOne K (.ref S) (.ref S) = some true := by
  have e1 : (PySem.W.subIn K (.ref S) (.type "BaseException") == some true) = true := by rw [h1] <;> rfl
  have e2 : ((PySem.W.clsIn K S).isSome && PySem.W.typeIn K (.ref S) == some (.type "type")) = true := by
    have h2' : (PySem.W.clsIn K S).isSome = true := h2
    rw [h2', h3] <;> rfl
  show (if (PySem.W.subIn K (.ref S) (.type "BaseException") == some true) = true then (if ((PySem.W.clsIn K S).isSome && PySem.W.typeIn K (.ref S) == some (.type "type")) = true then PySem.W.subIn K (.ref S) (.ref S) else none) else none) = some true
  rw [if_pos e1, if_pos e2]
  exact h4
/-- the table of the def that the name y stands for is empty, and its code object is whole -/
def TabOf (K : PySem.W.Frag) (mg : Str → Option Value) (y : Str) (h : Heap) : Prop := ∀ (fa c T : Addr) (o : Obj) (fd : FuncData) (e : Value) (dd : Option Addr) (vs : Array Value) (sl : Array (Option Value)), mg y = some (.ref fa) → K.lookup fa = some o → o.data = .func fd → fd.code = .ref c → K.lookup c = some ⟨e, dd, .fields vs, sl⟩ → vs[11]? = some (.ref T) →
  PySem.W.CodeHd h c T ∧ h.get? T = some { cls := .none, data := .fields #[] }
theorem walk_y {l : PySem.W.OpenLaw} {n k : Nat} {q : Program} {loose : List Str} {XP : (Str → Option Value) → Heap → Prop} {YP : World → Heap → Prop} {d : DefRec} {K : Params → PySem.W.Frag} {CX : World → CXT} {x y : Str}
    (hn : l.most = some n) (hn2 : n ≤ sizeLine) (hdf : d.params.defaults = []) (hr : Room k callerA) (hrec : ((recsOf q).any fun e => e.name == y) = true) (hY : ∀ (w : World) (h : Heap), YP w h → (K w.params).In h)
    (F : ∀ (w : World) (mg : Str → Option Value) (fa : Addr) (h : Heap), (K w.params).In h → h.Ns mainGlobals mg → mg d.name = some (.ref fa) → TabOf (K w.params) mg y h → LamX.LawAtS l w (K w.params) (CX w) k n x mg fa h)
    (hCX : ∀ (w : World) (H : Hp) (s : Shared) (e : Value) (s' : Shared), CX w [] H s (fun _ _ _ => False) e s' → False) :
    PySem.W.WalkO q loose XP YP l.row.toRowW d [] (fun f vs => PySem.call f vs) := by
  refine Att.attach_callB hn hdf fun w s₀ s₁ mg mb fa o pm cd doc a vs ns G Y ho hd hcd hmg hobj hints hlen hbits hg => ?_
  have KX := hY w _ Y
  have own : TabOf (K w.params) mg y s₁.heap := fun fa c T o1 fd1 e dd vs1 sl k0 k1 k2 k3 k4 k5 => by
    obtain ⟨dL, hm, hn1⟩ := List.any_eq_true.mp hrec
    have hn2 : dL.name = y := beq_iff_eq.mp hn1
    obtain ⟨a', o', fd', c', P', h1, h2, h3, h4, h5, h6⟩ := G.T.tab dL hm
    have hh := PySem.W.CodeHd.of h5 h6
    rw [hn2, k0] at h1
    cases h1
    have g1 := KX _ _ k1
    rw [g1] at h2
    cases h2
    rw [k2] at h3
    cases h3
    rw [k3] at h4
    cases h4
    obtain ⟨⟨oc, vc, e1, _, e3, e4⟩, hP⟩ := h6
    have g2 := KX _ _ k4
    rw [g2] at e1
    cases e1
    cases e3
    rw [k5] at e4
    cases e4
    exact ⟨hh, hP⟩
  obtain ⟨fd, cs, sp, hT, nT, C, hb, hsp, hF⟩ := F w mg fa _ KX G.T.g hmg own
  exact LamX.law_callTs KX G.T.g G.T.b G.T.builtins G.T.nolimit hg hT nT C G.T.bmain hobj hints (Nat.le_trans hlen hn2) hr hF hb (fun H hH hS => hsp H a ns hlen hbits hH hS) fun H e s' => hCX w H s₁ e s'
/-- what the top has written (each a fact that k_is finds), and the law's own head -/
theorem all_mk {w : World} {K : PySem.W.Frag} {h : Heap} {mg : Str → Option Value} {fa fcm fpl fti fne fcd fco fpa fad fsc fop fcn fsk frn frp frt fre fln flf flp fls flt flr flw : Addr} (X : K.In h) (G : h.Ns mainGlobals mg) (hfa : mg "law" = some (.ref fa)) (HT : TabOf K mg "is_short" h)
    {odcm ancm : Option Addr} {slcm : Array (Option Value)} {occm kVcm dccm pmcm cvcm ctcm : Value}
    {odpl anpl : Option Addr} {slpl : Array (Option Value)} {ocpl kVpl dcpl pmpl cvpl ctpl : Value}
    {odti anti : Option Addr} {slti : Array (Option Value)} {octi kVti dcti pmti cvti ctti : Value}
    {odne anne : Option Addr} {slne : Array (Option Value)} {ocne kVne dcne pmne cvne ctne : Value}
    {odcd ancd : Option Addr} {slcd : Array (Option Value)} {occd kVcd dccd pmcd cvcd ctcd : Value}
    {odco anco : Option Addr} {slco : Array (Option Value)} {occo kVco dcco pmco cvco ctco : Value}
    {odpa anpa : Option Addr} {slpa : Array (Option Value)} {ocpa kVpa dcpa pmpa cvpa ctpa : Value}
    {odad anad : Option Addr} {slad : Array (Option Value)} {ocad kVad dcad pmad cvad ctad : Value}
    {odsc ansc : Option Addr} {slsc : Array (Option Value)} {ocsc kVsc dcsc pmsc cvsc ctsc : Value}
    {odop anop : Option Addr} {slop : Array (Option Value)} {ocop kVop dcop pmop cvop ctop : Value}
    {odcn ancn : Option Addr} {slcn : Array (Option Value)} {occn kVcn dccn pmcn cvcn ctcn : Value}
    {odsk ansk : Option Addr} {slsk : Array (Option Value)} {ocsk kVsk dcsk pmsk cvsk ctsk : Value}
    {odrn anrn : Option Addr} {slrn : Array (Option Value)} {ocrn kVrn dcrn pmrn cvrn ctrn : Value}
    {odrp anrp : Option Addr} {slrp : Array (Option Value)} {ocrp kVrp dcrp pmrp cvrp ctrp : Value}
    {odrt anrt : Option Addr} {slrt : Array (Option Value)} {ocrt kVrt dcrt pmrt cvrt ctrt : Value}
    {odre anre : Option Addr} {slre : Array (Option Value)} {ocre kVre dcre pmre cvre ctre : Value}
    {odln anln : Option Addr} {slln : Array (Option Value)} {ocln kVln dcln pmln cvln ctln : Value}
    {odlf anlf : Option Addr} {sllf : Array (Option Value)} {oclf kVlf dclf pmlf cvlf ctlf : Value}
    {odlp anlp : Option Addr} {sllp : Array (Option Value)} {oclp kVlp dclp pmlp cvlp ctlp : Value}
    {odls anls : Option Addr} {slls : Array (Option Value)} {ocls kVls dcls pmls cvls ctls : Value}
    {odlt anlt : Option Addr} {sllt : Array (Option Value)} {oclt kVlt dclt pmlt cvlt ctlt : Value}
    {odlr anlr : Option Addr} {sllr : Array (Option Value)} {oclr kVlr dclr pmlr cvlr ctlr : Value}
    {odlw anlw : Option Addr} {sllw : Array (Option Value)} {oclw kVlw dclw pmlw cvlw ctlw : Value}
    {ffr Tfr : Addr} {odfr anfr dTfr : Option Addr} {slfr sTfr : Array (Option Value)} {ocfr kVfr dcfr pmfr cvfr ctfr cTfr : Value} {nTfr : Nat} {tkfr : Tok}
    {fsh csh T : Addr} {odsh ansh dCsh : Option Addr} {slsh sCsh : Array (Option Value)} {ocsh kVsh dcsh pmsh ctsh cCsh : Value} {vsh : Array Value}
    {C fI cc cda : Addr} {nm q : Str} {N : Addr} {bs bmC : List Value} {sn : List Str} {sub : List Value} {ab : Bool} {col : Option Bool} {dd : Option Addr} {m0 m1 m2 m3 m5 : Option Value} {odI cld cdd : Option Addr} {slI csl ccs : Array (Option Value)} {ocI dcI pmI ctI cl ccl : Value} {vsc : Array Value} {file : Str} {tfile : Tok}
    {tkD tkL tk12 : Tok}
    (a_cm : PySem.W.nsIn K mainGlobals "common" = some (some (.ref fcm))) (l_cm : K.lookup fcm = some ⟨occm, odcm, .func (PySem.W.fnOf "common" "common" (defArgs sCommon) (defBody sCommon) (defScope sCommon) .none kVcm dccm pmcm ancm cvcm ctcm), slcm⟩) (c_cm : PySem.W.codeIn K cvcm "common" = true) (k_cm : PySem.W.keepIn K (.ref fcm) = true)
    (a_pl : PySem.W.nsIn K mainGlobals "plus" = some (some (.ref fpl))) (l_pl : K.lookup fpl = some ⟨ocpl, odpl, .func (PySem.W.fnOf "plus" "plus" (defArgs sPlus) (defBody sPlus) (defScope sPlus) .none kVpl dcpl pmpl anpl cvpl ctpl), slpl⟩) (c_pl : PySem.W.codeIn K cvpl "plus" = true) (k_pl : PySem.W.keepIn K (.ref fpl) = true)
    (a_ti : PySem.W.nsIn K mainGlobals "times" = some (some (.ref fti))) (l_ti : K.lookup fti = some ⟨octi, odti, .func (PySem.W.fnOf "times" "times" (defArgs sTimes) (defBody sTimes) (defScope sTimes) .none kVti dcti pmti anti cvti ctti), slti⟩) (c_ti : PySem.W.codeIn K cvti "times" = true) (k_ti : PySem.W.keepIn K (.ref fti) = true)
    (a_ne : PySem.W.nsIn K mainGlobals "negative" = some (some (.ref fne))) (l_ne : K.lookup fne = some ⟨ocne, odne, .func (PySem.W.fnOf "negative" "negative" (defArgs sNegative) (defBody sNegative) (defScope sNegative) .none kVne dcne pmne anne cvne ctne), slne⟩) (c_ne : PySem.W.codeIn K cvne "negative" = true) (k_ne : PySem.W.keepIn K (.ref fne) = true)
    (a_cd : PySem.W.nsIn K mainGlobals "count_digits" = some (some (.ref fcd))) (l_cd : K.lookup fcd = some ⟨occd, odcd, .func (PySem.W.fnOf "count_digits" "count_digits" (defArgs sCountD) (defBody sCountD) (defScope sCountD) .none kVcd dccd pmcd ancd cvcd ctcd), slcd⟩) (c_cd : PySem.W.codeIn K cvcd "count_digits" = true) (k_cd : PySem.W.keepIn K (.ref fcd) = true)
    (a_co : PySem.W.nsIn K mainGlobals "constant" = some (some (.ref fco))) (l_co : K.lookup fco = some ⟨occo, odco, .func (PySem.W.fnOf "constant" "constant" (defArgs sConstant) (defBody sConstant) (defScope sConstant) .none kVco dcco pmco anco cvco ctco), slco⟩) (c_co : PySem.W.codeIn K cvco "constant" = true) (k_co : PySem.W.keepIn K (.ref fco) = true)
    (a_pa : PySem.W.nsIn K mainGlobals "parameter" = some (some (.ref fpa))) (l_pa : K.lookup fpa = some ⟨ocpa, odpa, .func (PySem.W.fnOf "parameter" "parameter" (defArgs sParameter) (defBody sParameter) (defScope sParameter) .none kVpa dcpa pmpa anpa cvpa ctpa), slpa⟩) (c_pa : PySem.W.codeIn K cvpa "parameter" = true) (k_pa : PySem.W.keepIn K (.ref fpa) = true)
    (a_ad : PySem.W.nsIn K mainGlobals "add" = some (some (.ref fad))) (l_ad : K.lookup fad = some ⟨ocad, odad, .func (PySem.W.fnOf "add" "add" (defArgs sAdd) (defBody sAdd) (defScope sAdd) .none kVad dcad pmad anad cvad ctad), slad⟩) (c_ad : PySem.W.codeIn K cvad "add" = true) (k_ad : PySem.W.keepIn K (.ref fad) = true)
    (a_sc : PySem.W.nsIn K mainGlobals "scale" = some (some (.ref fsc))) (l_sc : K.lookup fsc = some ⟨ocsc, odsc, .func (PySem.W.fnOf "scale" "scale" (defArgs sScale) (defBody sScale) (defScope sScale) .none kVsc dcsc pmsc ansc cvsc ctsc), slsc⟩) (c_sc : PySem.W.codeIn K cvsc "scale" = true) (k_sc : PySem.W.keepIn K (.ref fsc) = true)
    (a_op : PySem.W.nsIn K mainGlobals "opposite" = some (some (.ref fop))) (l_op : K.lookup fop = some ⟨ocop, odop, .func (PySem.W.fnOf "opposite" "opposite" (defArgs sOpposite) (defBody sOpposite) (defScope sOpposite) .none kVop dcop pmop anop cvop ctop), slop⟩) (c_op : PySem.W.codeIn K cvop "opposite" = true) (k_op : PySem.W.keepIn K (.ref fop) = true)
    (a_cn : PySem.W.nsIn K mainGlobals "count_name" = some (some (.ref fcn))) (l_cn : K.lookup fcn = some ⟨occn, odcn, .func (PySem.W.fnOf "count_name" "count_name" (defArgs sCountN) (defBody sCountN) (defScope sCountN) .none kVcn dccn pmcn ancn cvcn ctcn), slcn⟩) (c_cn : PySem.W.codeIn K cvcn "count_name" = true) (k_cn : PySem.W.keepIn K (.ref fcn) = true)
    (a_sk : PySem.W.nsIn K mainGlobals "skip_blanks" = some (some (.ref fsk))) (l_sk : K.lookup fsk = some ⟨ocsk, odsk, .func (PySem.W.fnOf "skip_blanks" "skip_blanks" (defArgs sSkip) (defBody sSkip) (defScope sSkip) .none kVsk dcsk pmsk ansk cvsk ctsk), slsk⟩) (c_sk : PySem.W.codeIn K cvsk "skip_blanks" = true) (k_sk : PySem.W.keepIn K (.ref fsk) = true)
    (a_rn : PySem.W.nsIn K mainGlobals "read_number" = some (some (.ref frn))) (l_rn : K.lookup frn = some ⟨ocrn, odrn, .func (PySem.W.fnOf "read_number" "read_number" (defArgs sReadNum) (defBody sReadNum) (defScope sReadNum) .none kVrn dcrn pmrn anrn cvrn ctrn), slrn⟩) (c_rn : PySem.W.codeIn K cvrn "read_number" = true) (k_rn : PySem.W.keepIn K (.ref frn) = true)
    (a_rp : PySem.W.nsIn K mainGlobals "read_parameter" = some (some (.ref frp))) (l_rp : K.lookup frp = some ⟨ocrp, odrp, .func (PySem.W.fnOf "read_parameter" "read_parameter" (defArgs sReadPar) (defBody sReadPar) (defScope sReadPar) .none kVrp dcrp pmrp anrp cvrp ctrp), slrp⟩) (c_rp : PySem.W.codeIn K cvrp "read_parameter" = true) (k_rp : PySem.W.keepIn K (.ref frp) = true)
    (a_rt : PySem.W.nsIn K mainGlobals "read_term" = some (some (.ref frt))) (l_rt : K.lookup frt = some ⟨ocrt, odrt, .func (PySem.W.fnOf "read_term" "read_term" (defArgs sReadTerm) (defBody sReadTerm) (defScope sReadTerm) .none kVrt dcrt pmrt anrt cvrt ctrt), slrt⟩) (c_rt : PySem.W.codeIn K cvrt "read_term" = true) (k_rt : PySem.W.keepIn K (.ref frt) = true)
    (a_re : PySem.W.nsIn K mainGlobals "read_expression" = some (some (.ref fre))) (l_re : K.lookup fre = some ⟨ocre, odre, .func (PySem.W.fnOf "read_expression" "read_expression" (defArgs sReadEx) (defBody sReadEx) (defScope sReadEx) .none kVre dcre pmre anre cvre ctre), slre⟩) (c_re : PySem.W.codeIn K cvre "read_expression" = true) (k_re : PySem.W.keepIn K (.ref fre) = true)
    (a_ln : PySem.W.nsIn K mainGlobals "_law_number" = some (some (.ref fln))) (l_ln : K.lookup fln = some ⟨ocln, odln, .func (PySem.W.fnOf "_law_number" "_law_number" (defArgs sLNum) (defBody sLNum) (defScope sLNum) .none kVln dcln pmln anln cvln ctln), slln⟩) (c_ln : PySem.W.codeIn K cvln "_law_number" = true) (k_ln : PySem.W.keepIn K (.ref fln) = true)
    (a_lf : PySem.W.nsIn K mainGlobals "_law_fraction" = some (some (.ref flf))) (l_lf : K.lookup flf = some ⟨oclf, odlf, .func (PySem.W.fnOf "_law_fraction" "_law_fraction" (defArgs sLFrac) (defBody sLFrac) (defScope sLFrac) .none kVlf dclf pmlf anlf cvlf ctlf), sllf⟩) (c_lf : PySem.W.codeIn K cvlf "_law_fraction" = true) (k_lf : PySem.W.keepIn K (.ref flf) = true)
    (a_lp : PySem.W.nsIn K mainGlobals "_law_plus" = some (some (.ref flp))) (l_lp : K.lookup flp = some ⟨oclp, odlp, .func (PySem.W.fnOf "_law_plus" "_law_plus" (defArgs sLPlus) (defBody sLPlus) (defScope sLPlus) .none kVlp dclp pmlp anlp cvlp ctlp), sllp⟩) (c_lp : PySem.W.codeIn K cvlp "_law_plus" = true) (k_lp : PySem.W.keepIn K (.ref flp) = true)
    (a_ls : PySem.W.nsIn K mainGlobals "_law_short" = some (some (.ref fls))) (l_ls : K.lookup fls = some ⟨ocls, odls, .func (PySem.W.fnOf "_law_short" "_law_short" (defArgs sLShort) (defBody sLShort) (defScope sLShort) .none kVls dcls pmls anls cvls ctls), slls⟩) (c_ls : PySem.W.codeIn K cvls "_law_short" = true) (k_ls : PySem.W.keepIn K (.ref fls) = true)
    (a_lt : PySem.W.nsIn K mainGlobals "_law_term" = some (some (.ref flt))) (l_lt : K.lookup flt = some ⟨oclt, odlt, .func (PySem.W.fnOf "_law_term" "_law_term" (defArgs sLTerm) (defBody sLTerm) (defScope sLTerm) .none kVlt dclt pmlt anlt cvlt ctlt), sllt⟩) (c_lt : PySem.W.codeIn K cvlt "_law_term" = true) (k_lt : PySem.W.keepIn K (.ref flt) = true)
    (a_lr : PySem.W.nsIn K mainGlobals "_law_read" = some (some (.ref flr))) (l_lr : K.lookup flr = some ⟨oclr, odlr, .func (PySem.W.fnOf "_law_read" "_law_read" (defArgs sLRead) (defBody sLRead) (defScope sLRead) .none kVlr dclr pmlr anlr cvlr ctlr), sllr⟩) (c_lr : PySem.W.codeIn K cvlr "_law_read" = true) (k_lr : PySem.W.keepIn K (.ref flr) = true)
    (a_lw : PySem.W.nsIn K mainGlobals "law" = some (some (.ref flw))) (l_lw : K.lookup flw = some ⟨oclw, odlw, .func (PySem.W.fnOf "law" "law" (defArgs sLaw) (defBody sLaw) (defScope sLaw) .none kVlw dclw pmlw anlw cvlw ctlw), sllw⟩) (c_lw : PySem.W.codeIn K cvlw "law" = true) (k_lw : PySem.W.keepIn K (.ref flw) = true)
    (a_fr : PySem.W.nsIn K mainGlobals "fraction" = some (some (.ref ffr))) (l_fr : K.lookup ffr = some ⟨ocfr, odfr, .func (PySem.W.fnOf "fraction" "fraction" (defArgs sFraction) (defBody sFraction) (defScope sFraction) (.ref Tfr) kVfr dcfr pmfr anfr cvfr ctfr), slfr⟩) (c_fr : PySem.W.codeIn K cvfr "fraction" = true) (k_fr : PySem.W.keepIn K (.ref ffr) = true) (d_fr : K.lookup Tfr = some ⟨cTfr, dTfr, .seq (([.int 1 tkfr] : List Value).toArray) nTfr, sTfr⟩)
    (a_sh : PySem.W.nsIn K mainGlobals "is_short" = some (some (.ref fsh))) (l_sh : K.lookup fsh = some ⟨ocsh, odsh, .func (PySem.W.fnOf "is_short" "is_short" (defArgs sShort) (defBody sShort) (defScope sShort) .none kVsh dcsh pmsh ansh (.ref csh) ctsh), slsh⟩) (c_sh : PySem.W.codeIn K (.ref csh) "is_short" = true) (k_sh : PySem.W.keepIn K (.ref fsh) = true) (d_sh : K.lookup csh = some ⟨cCsh, dCsh, .fields vsh, sCsh⟩) (v_sh : vsh[11]? = some (.ref T)) (n_sh : K.lookup T = none)
    (a_C : PySem.W.nsIn K mainGlobals "TextFault" = some (some (.ref C))) (l_C : K.lookup C = some (excClassObj nm q C N bs bmC true sn sub ab col dd m0 m1 m2 m3 m5 "ValueError.__new__")) (r_C : PySem.HandSPX.refsVE bmC = true)
    (sa : PySem.W.findIn K (.ref C) "__setattr__" = some (some (.builtin "object.__setattr__"))) (ga : PySem.W.findIn K (.ref C) "__getattribute__" = some (some (.builtin "BaseException.__getattribute__"))) (gg : PySem.W.findIn K (.ref C) "__getattr__" = some none) (nl : PySem.W.findIn K (.ref C) "line" = some none) (nc : PySem.W.findIn K (.ref C) "column" = some none)
    (iC : PySem.W.findIn K (.ref C) "__init__" = some (some (.ref fI))) (tI : PySem.W.typeIn K (.ref fI) = some (.type "function")) (l_I : K.lookup fI = some ⟨ocI, odI, .func ((nfI cc cda).fd dcI pmI ctI), slI⟩) (c_I : PySem.W.codeIn K (.ref cda) "TextFault.__init__" = true)
    (l_cc : K.lookup cc = some ⟨cl, cld, .cell (some (.ref C)), csl⟩) (l_cda : K.lookup cda = some ⟨ccl, cdd, .fields vsc, ccs⟩) (v_cda : vsc[2]? = some (.str file tfile)) (e_cda : ((PySem.Challenge.pw_truepart_k05_whole_expressions_are_read.main.file : Str) == file) = true)
    (sup : PySem.W.ks_superIn K C C "__init__" = some (some (.builtin "ValueError.__init__"))) (tp : PySem.W.nsIn K cStatics "thirdparty.any" = some none) (sV : PySem.W.subIn K (.ref C) (.type "ValueError") = some true) (ms : PySem.W.mroIn K C (.ref C) = some true)
    (kC : PySem.W.keepIn K (.ref C) = true) (eC : PySem.W.subIn K (.ref C) (.type "BaseException") = some true) (tC : PySem.W.typeIn K (.ref C) = some (.type "type")) (hC : PySem.W.hasDictIn K C = true) (isC : PySem.W.isClsIn K C = true) (sC : PySem.W.subIn K (.ref C) (.ref C) = some true)
    (mD : PySem.W.nsIn K mainGlobals "DIGITS" = some (some (.str strD tkD))) (mL : PySem.W.nsIn K mainGlobals "LETTERS" = some (some (.str strL tkL))) (m12 : PySem.W.nsIn K mainGlobals "LONGEST" = some (some (.int 12 tk12)))
    (z_abs : PySem.W.nsIn K mainGlobals "abs" = some none) (z_len : PySem.W.nsIn K mainGlobals "len" = some none) (z_int : PySem.W.nsIn K mainGlobals "int" = some none) (z_str : PySem.W.nsIn K mainGlobals "str" = some none) (z_range : PySem.W.nsIn K mainGlobals "range" = some none) (z_tuple : PySem.W.nsIn K mainGlobals "tuple" = some none) (z_list : PySem.W.nsIn K mainGlobals "list" = some none) (z_all : PySem.W.nsIn K mainGlobals "all" = some none) (z_isinstance : PySem.W.nsIn K mainGlobals "isinstance" = some none) (z_bool : PySem.W.nsIn K mainGlobals "bool" = some none) (z_super : PySem.W.nsIn K mainGlobals "super" = some none)
    : LamX.LawAtS PySem.Challenge.rw_truepart_k05_whole_expressions_are_read w K CX0 8 63 "_law_script" mg fa h := by
  have eLw := hfa.symm.trans (PySem.W.mg_of X G a_lw)
  cases eLw
  have b_abs : mg "abs" = none := PySem.W.mg_none_of X G z_abs
  have b_len : mg "len" = none := PySem.W.mg_none_of X G z_len
  have b_int : mg "int" = none := PySem.W.mg_none_of X G z_int
  have b_str : mg "str" = none := PySem.W.mg_none_of X G z_str
  have b_range : mg "range" = none := PySem.W.mg_none_of X G z_range
  have b_tuple : mg "tuple" = none := PySem.W.mg_none_of X G z_tuple
  have b_list : mg "list" = none := PySem.W.mg_none_of X G z_list
  have b_all : mg "all" = none := PySem.W.mg_none_of X G z_all
  have b_isinstance : mg "isinstance" = none := PySem.W.mg_none_of X G z_isinstance
  have b_bool : mg "bool" = none := PySem.W.mg_none_of X G z_bool
  have b_super : mg "super" = none := PySem.W.mg_none_of X G z_super
  have gD : mg "DIGITS" = some (.str strD tkD) := PySem.W.mg_of X G mD
  have gL : mg "LETTERS" = some (.str strL tkL) := PySem.W.mg_of X G mL
  have g12 : mg "LONGEST" = some (.int 12 tk12) := PySem.W.mg_of X G m12
  have gC : mg "TextFault" = some (.ref C) := PySem.W.mg_of X G a_C
  have F_cm := fun_mk (st := sCommon) l_cm c_cm k_cm
  have C_cm : CallF K mg "common" fcm _ ["a", "b"] := ⟨PySem.W.mg_of X G a_cm, k_cm, F_cm.binds fun _ _ _ _ _ _ us hl => match us, hl with | [_, _], _ => rfl⟩
  have F_pl := fun_mk (st := sPlus) l_pl c_pl k_pl
  have C_pl : CallF K mg "plus" fpl _ ["a", "b"] := ⟨PySem.W.mg_of X G a_pl, k_pl, F_pl.binds fun _ _ _ _ _ _ us hl => match us, hl with | [_, _], _ => rfl⟩
  have F_ti := fun_mk (st := sTimes) l_ti c_ti k_ti
  have C_ti : CallF K mg "times" fti _ ["a", "b"] := ⟨PySem.W.mg_of X G a_ti, k_ti, F_ti.binds fun _ _ _ _ _ _ us hl => match us, hl with | [_, _], _ => rfl⟩
  have F_ne := fun_mk (st := sNegative) l_ne c_ne k_ne
  have C_ne : CallF K mg "negative" fne _ ["a"] := ⟨PySem.W.mg_of X G a_ne, k_ne, F_ne.binds fun _ _ _ _ _ _ us hl => match us, hl with | [_], _ => rfl⟩
  have F_cd := fun_mk (st := sCountD) l_cd c_cd k_cd
  have C_cd : CallF K mg "count_digits" fcd _ ["text", "start"] := ⟨PySem.W.mg_of X G a_cd, k_cd, F_cd.binds fun _ _ _ _ _ _ us hl => match us, hl with | [_, _], _ => rfl⟩
  have F_co := fun_mk (st := sConstant) l_co c_co k_co
  have C_co : CallF K mg "constant" fco _ ["base", "many"] := ⟨PySem.W.mg_of X G a_co, k_co, F_co.binds fun _ _ _ _ _ _ us hl => match us, hl with | [_, _], _ => rfl⟩
  have F_pa := fun_mk (st := sParameter) l_pa c_pa k_pa
  have C_pa : CallF K mg "parameter" fpa _ ["at", "many"] := ⟨PySem.W.mg_of X G a_pa, k_pa, F_pa.binds fun _ _ _ _ _ _ us hl => match us, hl with | [_, _], _ => rfl⟩
  have F_ad := fun_mk (st := sAdd) l_ad c_ad k_ad
  have C_ad : CallF K mg "add" fad _ ["a", "b"] := ⟨PySem.W.mg_of X G a_ad, k_ad, F_ad.binds fun _ _ _ _ _ _ us hl => match us, hl with | [_, _], _ => rfl⟩
  have F_sc := fun_mk (st := sScale) l_sc c_sc k_sc
  have C_sc : CallF K mg "scale" fsc _ ["factor", "a"] := ⟨PySem.W.mg_of X G a_sc, k_sc, F_sc.binds fun _ _ _ _ _ _ us hl => match us, hl with | [_, _], _ => rfl⟩
  have F_op := fun_mk (st := sOpposite) l_op c_op k_op
  have C_op : CallF K mg "opposite" fop _ ["a"] := ⟨PySem.W.mg_of X G a_op, k_op, F_op.binds fun _ _ _ _ _ _ us hl => match us, hl with | [_], _ => rfl⟩
  have F_cn := fun_mk (st := sCountN) l_cn c_cn k_cn
  have C_cn : CallF K mg "count_name" fcn _ ["text", "start"] := ⟨PySem.W.mg_of X G a_cn, k_cn, F_cn.binds fun _ _ _ _ _ _ us hl => match us, hl with | [_, _], _ => rfl⟩
  have F_sk := fun_mk (st := sSkip) l_sk c_sk k_sk
  have C_sk : CallF K mg "skip_blanks" fsk _ ["text", "start"] := ⟨PySem.W.mg_of X G a_sk, k_sk, F_sk.binds fun _ _ _ _ _ _ us hl => match us, hl with | [_, _], _ => rfl⟩
  have F_rn := fun_mk (st := sReadNum) l_rn c_rn k_rn
  have C_rn : CallF K mg "read_number" frn _ ["text", "start"] := ⟨PySem.W.mg_of X G a_rn, k_rn, F_rn.binds fun _ _ _ _ _ _ us hl => match us, hl with | [_, _], _ => rfl⟩
  have F_rp := fun_mk (st := sReadPar) l_rp c_rp k_rp
  have C_rp : CallF K mg "read_parameter" frp _ ["names", "text", "start"] := ⟨PySem.W.mg_of X G a_rp, k_rp, F_rp.binds fun _ _ _ _ _ _ us hl => match us, hl with | [_, _, _], _ => rfl⟩
  have F_rt := fun_mk (st := sReadTerm) l_rt c_rt k_rt
  have C_rt : CallF K mg "read_term" frt _ ["names", "text", "start"] := ⟨PySem.W.mg_of X G a_rt, k_rt, F_rt.binds fun _ _ _ _ _ _ us hl => match us, hl with | [_, _, _], _ => rfl⟩
  have F_re := fun_mk (st := sReadEx) l_re c_re k_re
  have C_re : CallF K mg "read_expression" fre _ ["names", "text"] := ⟨PySem.W.mg_of X G a_re, k_re, F_re.binds fun _ _ _ _ _ _ us hl => match us, hl with | [_, _], _ => rfl⟩
  have F_ln := fun_mk (st := sLNum) l_ln c_ln k_ln
  have C_ln : CallF K mg "_law_number" fln _ ["_law_script", "_law_k"] := ⟨PySem.W.mg_of X G a_ln, k_ln, F_ln.binds fun _ _ _ _ _ _ us hl => match us, hl with | [_, _], _ => rfl⟩
  have F_lf := fun_mk (st := sLFrac) l_lf c_lf k_lf
  have C_lf : CallF K mg "_law_fraction" flf _ ["_law_number_here", "_law_divisor"] := ⟨PySem.W.mg_of X G a_lf, k_lf, F_lf.binds fun _ _ _ _ _ _ us hl => match us, hl with | [_, _], _ => rfl⟩
  have F_lp := fun_mk (st := sLPlus) l_lp c_lp k_lp
  have C_lp : CallF K mg "_law_plus" flp _ ["_law_a", "_law_b"] := ⟨PySem.W.mg_of X G a_lp, k_lp, F_lp.binds fun _ _ _ _ _ _ us hl => match us, hl with | [_, _], _ => rfl⟩
  have F_ls := fun_mk (st := sLShort) l_ls c_ls k_ls
  have C_ls : CallF K mg "_law_short" fls _ ["_law_row"] := ⟨PySem.W.mg_of X G a_ls, k_ls, F_ls.binds fun _ _ _ _ _ _ us hl => match us, hl with | [_], _ => rfl⟩
  have F_lt := fun_mk (st := sLTerm) l_lt c_lt k_lt
  have C_lt : CallF K mg "_law_term" flt _ ["_law_draw", "_law_names", "_law_found", "_law_sign"] := ⟨PySem.W.mg_of X G a_lt, k_lt, F_lt.binds fun _ _ _ _ _ _ us hl => match us, hl with | [_, _, _, _], _ => rfl⟩
  have F_lr := fun_mk (st := sLRead) l_lr c_lr k_lr
  have C_lr : CallF K mg "_law_read" flr _ ["_law_names", "_law_text"] := ⟨PySem.W.mg_of X G a_lr, k_lr, F_lr.binds fun _ _ _ _ _ _ us hl => match us, hl with | [_, _], _ => rfl⟩
  have F_lw := fun_mk (st := sLaw) l_lw c_lw k_lw
  have F_fr : FunF K ffr (PySem.W.fnOf "fraction" "fraction" (defArgs sFraction) (defBody sFraction) (defScope sFraction) (.ref Tfr) kVfr dcfr pmfr anfr cvfr ctfr) := ⟨⟨ocfr, odfr, _, _, _, _, _, _, _, _, rfl, l_fr, c_fr, .inr ⟨by simp, Tfr, _, [.int 1 tkfr], _, rfl, d_fr, rfl, .cons ⟨_, rfl⟩ .nil⟩, .inl rfl⟩, k_fr⟩
  have C_fr2 : CallF K mg "fraction" ffr _ ["number", "divisor"] := ⟨PySem.W.mg_of X G a_fr, k_fr, by
    obtain ⟨ds, r, b⟩ := F_fr.binds1 (ps := ["number", "divisor"]) 2 1 (by simp) rfl fun T kV doc pm an cdv ct us its hu hi => match us, hu, its, hi with
      | [_, _], _, [_], _ => ⟨_, rfl, rfl⟩
    cases r
    exact b⟩
  have C_fr : CallF1 K mg ffr _ := ⟨C_fr2, F_fr.binds1 (ps := ["number", "divisor"]) 1 0 (by simp) rfl fun T kV doc pm an cdv ct us its hu hi => match us, hu, its, hi with
      | [_], _, [_], _ => ⟨_, rfl, rfl⟩⟩
  have F_sh : FunC K "is_short" "is_short" sShort fsh csh _ := ⟨ocsh, odsh, kVsh, dcsh, pmsh, ansh, ctsh, slsh, rfl, l_sh, c_sh⟩
  have C_sh : CallF K mg "is_short" fsh (PySem.W.fnOf "is_short" "is_short" (defArgs sShort) (defBody sShort) (defScope sShort) .none kVsh dcsh pmsh ansh (.ref csh) ctsh) ["found"] := ⟨PySem.W.mg_of X G a_sh, k_sh, .all fun us hl => match us, hl with | [_], _ => rfl⟩
  have ox : OexC K C := ⟨⟨nm, q, N, bs, bmC, sn, sub, ab, col, dd, m0, m1, m2, m3, m5, l_C, r_C⟩, sa, eC, tC, kC⟩
  have IT : ITxt K mg C fI cc cda _ := { ox := ox, fn := ⟨ocI, odI, dcI, pmI, ctI, slI, rfl, l_I⟩, code := c_I, cell := ⟨cl, cld, csl, l_cc⟩, cdo := ⟨ccl, cdd, vsc, ccs, file, tfile, l_cda, v_cda, e_cda⟩, sup := sup, op := tp, msup := b_super, subV := sV, self := ms, nl := nl, nc := nc }
  have ct : CatchT K mg C := ⟨gC, ⟨ga, gg, eC, hC⟩, exm_self eC isC tC sC, nl, nc⟩
  obtain ⟨hd1, hd2⟩ := HT fsh csh T _ _ _ _ _ _ (PySem.W.mg_of X G a_sh) l_sh rfl rfl d_sh v_sh
  refine ⟨PySem.W.fnOf "law" "law" (defArgs sLaw) (defBody sLaw) (defScope sLaw) .none kVlw dclw pmlw anlw cvlw ctlw, [(csh, T)], spLaw K T, ?_, ?_, ?_, fun s v => .of_eq rfl, ?_, ?_⟩
  · intro p hp
    rw [List.mem_singleton] at hp
    subst hp
    exact hd2
  · intro p hp
    rw [List.mem_singleton] at hp
    subst hp
    exact n_sh
  · intro p hp
    rw [List.mem_singleton] at hp
    subst hp
    exact hd1
  · intro H a ns hl _ hH hS
    exact ⟨a, ns, rfl, hS, hl, ⟨#[], hH _ (List.mem_singleton.mpr rfl), trivial⟩, fun _ => rfl⟩
  · intro base hK hN hTB
    have TB0 := hTB _ (List.mem_singleton.mpr rfl)
    have TB : GxR.TabB base mg csh T := ⟨TB0.code, TB0.bm, TB0.gP⟩
    have G_cm : FnOk PySem.Challenge.pw_truepart_k05_whole_expressions_are_read w K mg base CX0 1 fcm _ ["a", "b"] spCommon := ok_common F_cm b_abs
    have G_fr : FnOk PySem.Challenge.pw_truepart_k05_whole_expressions_are_read w K mg base CX0 2 ffr _ ["number", "divisor"] spFraction := ok_fraction F_fr F_cm b_abs C_cm
    have G_pl : FnOk PySem.Challenge.pw_truepart_k05_whole_expressions_are_read w K mg base CX0 3 fpl _ ["a", "b"] spPlus := ok_plus F_pl G_fr C_fr2
    have G_ti : FnOk PySem.Challenge.pw_truepart_k05_whole_expressions_are_read w K mg base CX0 3 fti _ ["a", "b"] spTimes := ok_times F_ti G_fr C_fr2
    have G_ne : FnOk PySem.Challenge.pw_truepart_k05_whole_expressions_are_read w K mg base CX0 1 fne _ ["a"] spNegative := ok_negative F_ne
    have G_cd : FnOk PySem.Challenge.pw_truepart_k05_whole_expressions_are_read w K mg base CX0 1 fcd _ ["text", "start"] spCountD := ok_countD F_cd b_len gD
    have G_sk : FnOk PySem.Challenge.pw_truepart_k05_whole_expressions_are_read w K mg base CX0 1 fsk _ ["text", "start"] spSkip := ok_skip F_sk b_len
    have G_cn : FnOk PySem.Challenge.pw_truepart_k05_whole_expressions_are_read w K mg base CX0 1 fcn _ ["text", "start"] spCountN := ok_countN F_cn b_len gD gL
    have G_co : FnOk PySem.Challenge.pw_truepart_k05_whole_expressions_are_read w K mg base CX0 1 fco _ ["base", "many"] spConstant := ok_constant F_co b_tuple b_range
    have G_pa : FnOk PySem.Challenge.pw_truepart_k05_whole_expressions_are_read w K mg base CX0 1 fpa _ ["at", "many"] spParameter := ok_parameter F_pa b_tuple b_range
    have G_ad : FnOk PySem.Challenge.pw_truepart_k05_whole_expressions_are_read w K mg base CX0 4 fad _ ["a", "b"] spAdd := ok_add F_ad G_pl C_pl b_tuple b_range b_len
    have G_sc : FnOk PySem.Challenge.pw_truepart_k05_whole_expressions_are_read w K mg base CX0 4 fsc _ ["factor", "a"] spScale := ok_scale F_sc G_ti C_ti b_tuple
    have G_op : FnOk PySem.Challenge.pw_truepart_k05_whole_expressions_are_read w K mg base CX0 2 fop _ ["a"] spOpposite := ok_opposite F_op G_ne C_ne b_tuple
    have G_rn : FnOk PySem.Challenge.pw_truepart_k05_whole_expressions_are_read w K mg base CX0 3 frn _ ["text", "start"] spReadNum := ok_readNum F_rn G_cd C_cd G_fr C_fr b_len b_int g12
    have G_rp : FnOk PySem.Challenge.pw_truepart_k05_whole_expressions_are_read w K mg base CX0 2 frp _ ["names", "text", "start"] (spReadPar K) := ok_readPar F_rp G_cn C_cn G_pa C_pa b_len
    have G_rt : FnOk PySem.Challenge.pw_truepart_k05_whole_expressions_are_read w K mg base CX0 5 frt _ ["names", "text", "start"] (spReadTerm K) := ok_readTerm F_rt G_rp C_rp G_rn C_rn G_sk C_sk G_sc C_sc G_co C_co b_len gD
    have G_sh : FnOk PySem.Challenge.pw_truepart_k05_whole_expressions_are_read w K mg base CX0 2 fsh _ ["found"] (spShort T) := ok_short F_sh G_cm C_cm TB b_list b_all b_abs
    have er : ErrT PySem.Challenge.pw_truepart_k05_whole_expressions_are_read w K mg base C fI _ := ⟨ox, iC, tI, ok_init rfl IT, .all (fun us hl => match us, hl with | [_, _, _], _ => rfl), gC⟩
    have G_re : FnOk PySem.Challenge.pw_truepart_k05_whole_expressions_are_read w K mg base (L2.CX PySem.Challenge.pw_truepart_k05_whole_expressions_are_read w) 6 fre _ ["names", "text"] (spReadEx K C T) := ok_readEx F_re G_rt C_rt G_sk C_sk G_op C_op G_ad C_ad G_sh C_sh er b_len
    have G_ln : FnOk PySem.Challenge.pw_truepart_k05_whole_expressions_are_read w K mg base CX0 1 fln _ ["_law_script", "_law_k"] (spLNum K) := ok_lnum F_ln b_len b_int
    have G_lf : FnOk PySem.Challenge.pw_truepart_k05_whole_expressions_are_read w K mg base CX0 1 flf _ ["_law_number_here", "_law_divisor"] spLFrac := ok_lfrac F_lf b_len b_int b_str b_range
    have G_lp : FnOk PySem.Challenge.pw_truepart_k05_whole_expressions_are_read w K mg base CX0 2 flp _ ["_law_a", "_law_b"] spLPlus := ok_lplus F_lp G_lf C_lf
    have G_ls : FnOk PySem.Challenge.pw_truepart_k05_whole_expressions_are_read w K mg base CX0 2 fls _ ["_law_row"] spLShort := ok_lshort F_ls G_lf C_lf
    have G_lt : FnOk PySem.Challenge.pw_truepart_k05_whole_expressions_are_read w K mg base CX0 3 flt _ ["_law_draw", "_law_names", "_law_found", "_law_sign"] (spLTerm K) := ok_lterm F_lt G_lf C_lf G_lp C_lp b_len b_int b_str
    have G_lr : FnOk PySem.Challenge.pw_truepart_k05_whole_expressions_are_read w K mg base CX0 7 flr _ ["_law_names", "_law_text"] (spLRead K T) := ok_lread F_lr G_re C_re ct
    exact ok_law ⟨G_sh, C_sh, G_ls, C_ls, G_lr, C_lr, G_ln, C_ln, G_lt, C_lt, b_list, b_tuple, b_isinstance, b_bool, b_int, b_len, b_range⟩ F_lw
end Tp
open PySem PySem.W PyProof.Rows
set_option maxRecDepth 100000 in
set_option maxHeartbeats 0 in
theorem PySem.Challenge.cw_truepart_k05_whole_expressions_are_read_holds : PySem.Challenge.rw_truepart_k05_whole_expressions_are_read.Holds := by
  w_on; o_law; k_head; (case hw => w_witness2)
  k_fill
  refine Tp.walk_y (l := PySem.Challenge.rw_truepart_k05_whole_expressions_are_read) (n := 63) (k := 8) (x := "_law_script") (y := "is_short") (CX := fun _ => L2.CX0) rfl (by decide) rfl ⟨rfl, by decide, by decide⟩ ?R (fun w h Y => PySem.W.kIn_of Y) ?F (fun _ _ _ _ _ z => z)
  case R => first | kernel_rfl | decide +kernel
  case F =>
    intro w mg fa h KX G hmg HT
    refine' Tp.all_mk KX G hmg HT ?a_cm ?l_cm ?c_cm ?k_cm ?a_pl ?l_pl ?c_pl ?k_pl ?a_ti ?l_ti ?c_ti ?k_ti ?a_ne ?l_ne ?c_ne ?k_ne ?a_cd ?l_cd ?c_cd ?k_cd ?a_co ?l_co ?c_co ?k_co ?a_pa ?l_pa ?c_pa ?k_pa ?a_ad ?l_ad ?c_ad ?k_ad ?a_sc ?l_sc ?c_sc ?k_sc ?a_op ?l_op ?c_op ?k_op ?a_cn ?l_cn ?c_cn ?k_cn ?a_sk ?l_sk ?c_sk ?k_sk ?a_rn ?l_rn ?c_rn ?k_rn ?a_rp ?l_rp ?c_rp ?k_rp ?a_rt ?l_rt ?c_rt ?k_rt ?a_re ?l_re ?c_re ?k_re ?a_ln ?l_ln ?c_ln ?k_ln ?a_lf ?l_lf ?c_lf ?k_lf ?a_lp ?l_lp ?c_lp ?k_lp ?a_ls ?l_ls ?c_ls ?k_ls ?a_lt ?l_lt ?c_lt ?k_lt ?a_lr ?l_lr ?c_lr ?k_lr ?a_lw ?l_lw ?c_lw ?k_lw ?a_fr ?l_fr ?c_fr ?k_fr ?d_fr ?a_sh ?l_sh ?c_sh ?k_sh ?d_sh ?v_sh ?n_sh ?a_C ?l_C ?r_C ?sa ?ga ?gg ?nl ?nc ?iC ?tI ?l_I ?c_I ?l_cc ?l_cda ?v_cda ?e_cda ?sup ?tp ?sV ?ms ?kC ?eC ?tC ?hC ?isC ?sC ?mD ?mL ?m12 ?z_abs ?z_len ?z_int ?z_str ?z_range ?z_tuple ?z_list ?z_all ?z_isinstance ?z_bool ?z_super
    (case a_cm => k_is); (case l_cm => k_is); (case c_cm => k_is); (case k_cm => k_is)
    (case a_pl => k_is); (case l_pl => k_is); (case c_pl => k_is); (case k_pl => k_is)
    (case a_ti => k_is); (case l_ti => k_is); (case c_ti => k_is); (case k_ti => k_is)
    (case a_ne => k_is); (case l_ne => k_is); (case c_ne => k_is); (case k_ne => k_is)
    (case a_cd => k_is); (case l_cd => k_is); (case c_cd => k_is); (case k_cd => k_is)
    (case a_co => k_is); (case l_co => k_is); (case c_co => k_is); (case k_co => k_is)
    (case a_pa => k_is); (case l_pa => k_is); (case c_pa => k_is); (case k_pa => k_is)
    (case a_ad => k_is); (case l_ad => k_is); (case c_ad => k_is); (case k_ad => k_is)
    (case a_sc => k_is); (case l_sc => k_is); (case c_sc => k_is); (case k_sc => k_is)
    (case a_op => k_is); (case l_op => k_is); (case c_op => k_is); (case k_op => k_is)
    (case a_cn => k_is); (case l_cn => k_is); (case c_cn => k_is); (case k_cn => k_is)
    (case a_sk => k_is); (case l_sk => k_is); (case c_sk => k_is); (case k_sk => k_is)
    (case a_rn => k_is); (case l_rn => k_is); (case c_rn => k_is); (case k_rn => k_is)
    (case a_rp => k_is); (case l_rp => k_is); (case c_rp => k_is); (case k_rp => k_is)
    (case a_rt => k_is); (case l_rt => k_is); (case c_rt => k_is); (case k_rt => k_is)
    (case a_re => k_is); (case l_re => k_is); (case c_re => k_is); (case k_re => k_is)
    (case a_ln => k_is); (case l_ln => k_is); (case c_ln => k_is); (case k_ln => k_is)
    (case a_lf => k_is); (case l_lf => k_is); (case c_lf => k_is); (case k_lf => k_is)
    (case a_lp => k_is); (case l_lp => k_is); (case c_lp => k_is); (case k_lp => k_is)
    (case a_ls => k_is); (case l_ls => k_is); (case c_ls => k_is); (case k_ls => k_is)
    (case a_lt => k_is); (case l_lt => k_is); (case c_lt => k_is); (case k_lt => k_is)
    (case a_lr => k_is); (case l_lr => k_is); (case c_lr => k_is); (case k_lr => k_is)
    (case a_lw => k_is); (case l_lw => k_is); (case c_lw => k_is); (case k_lw => k_is)
    (case a_fr => k_is); (case l_fr => k_is); (case c_fr => k_is); (case k_fr => k_is); (case d_fr => k_is)
    (case a_sh => k_is); (case l_sh => k_is); (case c_sh => k_is); (case k_sh => k_is); (case d_sh => k_is); (case v_sh => rfl); (case n_sh => first | rfl | kernel_rfl)
    (case a_C => k_is); (case l_C => k_is); (case r_C => first | rfl | decide +kernel); (case sa => k_is); (case ga => k_is); (case gg => k_is); (case nl => k_is); (case nc => k_is); (case iC => k_is); (case tI => k_is); (case l_I => k_is); (case c_I => k_is); (case l_cc => k_is); (case l_cda => k_is); (case v_cda => rfl); (case e_cda => first | rfl | decide +kernel); (case sup => first | ks_is | k_is); (case tp => k_is); (case sV => k_is); (case ms => k_is); (case kC => k_is); (case eC => k_is); (case tC => k_is); (case hC => k_is); (case isC => k_is); (case sC => first | rfl | k_is)
    (case mD => k_is); (case mL => k_is); (case m12 => k_is)
    (case z_abs => k_is); (case z_len => k_is); (case z_int => k_is); (case z_str => k_is); (case z_range => k_is); (case z_tuple => k_is); (case z_list => k_is); (case z_all => k_is); (case z_isinstance => k_is); (case z_bool => k_is); (case z_super => k_is)
