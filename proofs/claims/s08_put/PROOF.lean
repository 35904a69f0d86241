import PyProof.Rows.All
import Wide.All
import OpenK.AllK
import Wide.FinOn
import Open.SpecLaws
import KE.OsHead
import KE.OsGo
import HandS.ForSpec
import HandS.Comp
import HandS.Iter
import HandS.Walk
import HandS.Text
import HandS.WideBits
import PySem.Challenge.RW_damagesums_s08_put
set_option Elab.async false
set_option linter.all false
set_option maxRecDepth 100000
set_option maxHeartbeats 4000000
namespace DS
open Sf81
/-! ### CRC: one bit on, over GF(2) -/
def g1 (p : Poly) (x : Nat) : Nat := if x % 2 = 1 then x / 2 ^^^ p.fall else x / 2
structure Good (p : Poly) : Prop where
  pos : 8 ≤ p.bits
  lt : p.fall < 2 ^ p.bits
  top : p.fall.testBit (p.bits - 1) = true
theorem good32 : Good CRC32 := ⟨by decide, by decide, by decide⟩
theorem good64 : Good CRC64 := ⟨by decide, by decide, by decide⟩
theorem on_zero (p : Poly) (x : Nat) : p.on 0 x = x := rfl
theorem on_succ (p : Poly) (n x : Nat) : p.on (n + 1) x = p.on n (g1 p x) := rfl
theorem on_succ' (p : Poly) : ∀ (n x : Nat), p.on (n + 1) x = g1 p (p.on n x)
  | 0, _ => rfl
  | n + 1, x => by
    rw [on_succ, on_succ' p n (g1 p x), on_succ]
theorem on_add (p : Poly) : ∀ (m n x : Nat), p.on (m + n) x = p.on n (p.on m x)
  | 0, n, x => by rw [Nat.zero_add, on_zero]
  | m + 1, n, x => by
    rw [show m + 1 + n = (m + n) + 1 by omega, on_succ, on_add p m n, on_succ]
theorem on_g1 (p : Poly) (n x : Nat) : p.on n (g1 p x) = g1 p (p.on n x) := by
  rw [← on_succ, on_succ']
theorem xor_half (x y : Nat) : (x ^^^ y) / 2 = (x / 2) ^^^ (y / 2) := Nat.xor_div_two
theorem xor_odd (x y : Nat) : (x ^^^ y) % 2 = (x % 2 + y % 2) % 2 := by
  have h : (x ^^^ y).testBit 0 = (x.testBit 0 ^^ y.testBit 0) := Nat.testBit_xor x y 0
  rw [Nat.testBit_zero, Nat.testBit_zero, Nat.testBit_zero] at h
  rcases Nat.mod_two_eq_zero_or_one x with hx | hx <;> rcases Nat.mod_two_eq_zero_or_one y with hy | hy <;> rcases Nat.mod_two_eq_zero_or_one (x ^^^ y) with hz | hz <;> simp [hx, hy, hz] at h ⊢
theorem g1_xor (p : Poly) (x y : Nat) : g1 p (x ^^^ y) = g1 p x ^^^ g1 p y := by
  unfold g1
  rw [xor_odd, xor_half]
  rcases Nat.mod_two_eq_zero_or_one x with hx | hx <;> rcases Nat.mod_two_eq_zero_or_one y with hy | hy
  · simp [hx, hy]
  · simp [hx, hy, Nat.xor_assoc]
  · simp only [hx, hy]
    simp only [Nat.reduceAdd, Nat.reduceMod, if_true, Nat.zero_ne_one, if_false]
    rw [Nat.xor_assoc, Nat.xor_assoc, Nat.xor_comm (y / 2)]
  · simp only [hx, hy]
    simp only [Nat.reduceAdd, Nat.reduceMod, if_true, Nat.zero_ne_one, if_false]
    rw [Nat.xor_assoc, ← Nat.xor_assoc p.fall, Nat.xor_comm p.fall, Nat.xor_assoc (y / 2), Nat.xor_self, Nat.xor_zero]
theorem g1_zero (p : Poly) : g1 p 0 = 0 := rfl
theorem on_0 (p : Poly) : ∀ n, p.on n 0 = 0
  | 0 => rfl
  | n + 1 => by rw [on_succ, g1_zero, on_0 p n]
theorem on_xor (p : Poly) : ∀ (n x y : Nat), p.on n (x ^^^ y) = p.on n x ^^^ p.on n y
  | 0, _, _ => rfl
  | n + 1, x, y => by rw [on_succ, g1_xor, on_xor p n, on_succ, on_succ]
theorem half_lt {w x : Nat} (hw : 0 < w) (hx : x < 2 ^ w) : x / 2 < 2 ^ (w - 1) := by
  have e : 2 ^ w = 2 * 2 ^ (w - 1) := by
    rw [← Nat.pow_succ']
    congr 1
    omega
  omega
theorem g1_lt {p : Poly} (G : Good p) {x : Nat} (hx : x < 2 ^ p.bits) : g1 p x < 2 ^ p.bits := by
  have h : x / 2 < 2 ^ p.bits := by omega
  unfold g1
  split
  · exact Nat.xor_lt_two_pow h G.lt
  · exact h
theorem on_lt {p : Poly} (G : Good p) : ∀ (n : Nat) {x : Nat}, x < 2 ^ p.bits → p.on n x < 2 ^ p.bits
  | 0, _, h => h
  | n + 1, _, h => by
    rw [on_succ]
    exact on_lt G n (g1_lt G h)
/-! ### one bit back -/
def b1 (p : Poly) (x : Nat) : Nat := if 2 ^ (p.bits - 1) ≤ x then 2 * (x ^^^ p.fall) + 1 else 2 * x
theorem pow_top {p : Poly} (G : Good p) : 2 ^ p.bits = 2 * 2 ^ (p.bits - 1) := by
  have := G.pos
  rw [← Nat.pow_succ']
  congr 1
  omega
theorem top_iff {w x : Nat} (hw : 0 < w) (hx : x < 2 ^ w) : x.testBit (w - 1) = true ↔ 2 ^ (w - 1) ≤ x := by
  have e : 2 ^ w = 2 * 2 ^ (w - 1) := by
    rw [← Nat.pow_succ']
    congr 1
    omega
  constructor
  · exact Nat.ge_two_pow_of_testBit
  · intro h
    rw [Nat.testBit_eq_decide_div_mod_eq]
    have h1 : x / 2 ^ (w - 1) = 1 := by
      apply Nat.div_eq_of_lt_le
      · omega
      · omega
    rw [h1]
    rfl
theorem fall_ge {p : Poly} (G : Good p) : 2 ^ (p.bits - 1) ≤ p.fall := Nat.ge_two_pow_of_testBit G.top
/-- two numbers with the highest bit -/
theorem top_xor {p : Poly} (G : Good p) {x : Nat} (hx : x < 2 ^ p.bits) (h : 2 ^ (p.bits - 1) ≤ x) : x ^^^ p.fall < 2 ^ (p.bits - 1) := by
  have hp := G.pos
  have hl : x ^^^ p.fall < 2 ^ p.bits := Nat.xor_lt_two_pow hx G.lt
  apply Nat.lt_of_not_le
  intro hc
  have t := (top_iff (by omega) hl).mpr hc
  rw [Nat.testBit_xor, (top_iff (by omega) hx).mpr h, G.top] at t
  cases t
theorem low_xor {p : Poly} (G : Good p) {x : Nat} (h : x < 2 ^ (p.bits - 1)) : 2 ^ (p.bits - 1) ≤ x ^^^ p.fall := by
  have hp := G.pos
  have e := pow_top G
  have hx : x < 2 ^ p.bits := by omega
  have hl : x ^^^ p.fall < 2 ^ p.bits := Nat.xor_lt_two_pow hx G.lt
  apply (top_iff (by omega) hl).mp
  rw [Nat.testBit_xor, G.top, Nat.testBit_lt_two_pow h]
  rfl
theorem b1_lt {p : Poly} (G : Good p) {x : Nat} (hx : x < 2 ^ p.bits) : b1 p x < 2 ^ p.bits := by
  have e := pow_top G
  unfold b1
  split
  · have := top_xor G hx (by assumption)
    omega
  · omega
theorem b1_spec {p : Poly} (G : Good p) {x : Nat} (hx : x < 2 ^ p.bits) :
    (if x.testBit (p.bits - 1) = true then (2 * (x ^^^ p.fall) + 1) % 2 ^ p.bits else 2 * x % 2 ^ p.bits) = b1 p x := by
  have hp := G.pos
  have hb := b1_lt G hx
  unfold b1 at hb ⊢
  by_cases h : 2 ^ (p.bits - 1) ≤ x
  · rw [if_pos h] at hb ⊢
    rw [if_pos ((top_iff (by omega) hx).mpr h), Nat.mod_eq_of_lt hb]
  · rw [if_neg h] at hb ⊢
    rw [if_neg (fun t => h ((top_iff (by omega) hx).mp t)), Nat.mod_eq_of_lt hb]
theorem back_succ {p : Poly} (G : Good p) (n : Nat) {x : Nat} (hx : x < 2 ^ p.bits) : p.back (n + 1) x = p.back n (b1 p x) := by
  show p.back n (if x.testBit (p.bits - 1) = true then (2 * (x ^^^ p.fall) + 1) % 2 ^ p.bits else 2 * x % 2 ^ p.bits) = _
  rw [b1_spec G hx]
theorem back_lt {p : Poly} (G : Good p) : ∀ (n : Nat) {x : Nat}, x < 2 ^ p.bits → p.back n x < 2 ^ p.bits
  | 0, _, h => h
  | n + 1, _, h => by
    rw [back_succ G n h]
    exact back_lt G n (b1_lt G h)
theorem back_succ' {p : Poly} (G : Good p) : ∀ (n : Nat) {x : Nat}, x < 2 ^ p.bits → p.back (n + 1) x = b1 p (p.back n x)
  | 0, x, h => by rw [back_succ G 0 h]; rfl
  | n + 1, x, h => by rw [back_succ G (n + 1) h, back_succ' G n (b1_lt G h), back_succ G n h]
theorem g1_b1 {p : Poly} (G : Good p) {x : Nat} (_hx : x < 2 ^ p.bits) : g1 p (b1 p x) = x := by
  unfold b1
  split
  · unfold g1
    rw [if_pos (by omega), show (2 * (x ^^^ p.fall) + 1) / 2 = x ^^^ p.fall by omega, Nat.xor_assoc, Nat.xor_self, Nat.xor_zero]
  · unfold g1
    rw [if_neg (by omega)]
    omega
theorem b1_g1 {p : Poly} (G : Good p) {x : Nat} (hx : x < 2 ^ p.bits) : b1 p (g1 p x) = x := by
  have hp := G.pos
  have h2 := half_lt (by omega) hx
  unfold g1
  split
  · unfold b1
    rw [if_pos (low_xor G h2), Nat.xor_assoc, Nat.xor_self, Nat.xor_zero]
    omega
  · unfold b1
    rw [if_neg (by omega)]
    omega
theorem on_back {p : Poly} (G : Good p) : ∀ (n : Nat) {x : Nat}, x < 2 ^ p.bits → p.on n (p.back n x) = x
  | 0, _, _ => rfl
  | n + 1, x, h => by
    rw [on_succ, back_succ' G n h, g1_b1 G (back_lt G n h), on_back G n h]
theorem back_on {p : Poly} (G : Good p) : ∀ (n : Nat) {x : Nat}, x < 2 ^ p.bits → p.back n (p.on n x) = x
  | 0, _, _ => rfl
  | n + 1, x, h => by
    rw [on_succ', back_succ G n (g1_lt G (on_lt G n h)), b1_g1 G (on_lt G n h), back_on G n h]
theorem on_inj {p : Poly} (G : Good p) {n x y : Nat} (hx : x < 2 ^ p.bits) (hy : y < 2 ^ p.bits) (h : p.on n x = p.on n y) : x = y := by
  rw [← back_on G n hx, h, back_on G n hy]
/-! ### the product -/
def e0 (p : Poly) : Nat := 2 ^ (p.bits - 1)
def prodN (p : Poly) (one other : Nat) : Nat → Nat
  | 0 => 0
  | n + 1 => if other.testBit (p.bits - 1 - n) = true then prodN p one other n ^^^ p.on n one else prodN p one other n
def prod (p : Poly) (one other : Nat) : Nat := prodN p one other p.bits
theorem e0_lt {p : Poly} (G : Good p) : e0 p < 2 ^ p.bits := by
  have e := pow_top G
  have : 0 < 2 ^ (p.bits - 1) := Nat.two_pow_pos _
  unfold e0
  omega
theorem prodN_lt {p : Poly} (G : Good p) {one other : Nat} (h : one < 2 ^ p.bits) : ∀ n, prodN p one other n < 2 ^ p.bits
  | 0 => Nat.two_pow_pos _
  | n + 1 => by
    unfold prodN
    split
    · exact Nat.xor_lt_two_pow (prodN_lt G h n) (on_lt G n h)
    · exact prodN_lt G h n
theorem prod_lt {p : Poly} (G : Good p) {one other : Nat} (h : one < 2 ^ p.bits) : prod p one other < 2 ^ p.bits := prodN_lt G h _
theorem xor4 (a b c d : Nat) : (a ^^^ b) ^^^ (c ^^^ d) = (a ^^^ c) ^^^ (b ^^^ d) := by
  rw [Nat.xor_assoc, Nat.xor_assoc, ← Nat.xor_assoc b, Nat.xor_comm b c, Nat.xor_assoc c]
theorem prodN_xor (p : Poly) (a b o : Nat) : ∀ n, prodN p (a ^^^ b) o n = prodN p a o n ^^^ prodN p b o n
  | 0 => by
    show 0 = 0 ^^^ 0
    rfl
  | n + 1 => by
    unfold prodN
    split
    · rw [prodN_xor p a b o n, on_xor, xor4]
    · exact prodN_xor p a b o n
theorem prodN_zero (p : Poly) (o : Nat) : ∀ n, prodN p 0 o n = 0
  | 0 => rfl
  | n + 1 => by
    unfold prodN
    split
    · rw [prodN_zero p o n, on_0]
      rfl
    · exact prodN_zero p o n
theorem prodN_g1 (p : Poly) (a o : Nat) : ∀ n, prodN p (g1 p a) o n = g1 p (prodN p a o n)
  | 0 => by
    show 0 = g1 p 0
    rfl
  | n + 1 => by
    unfold prodN
    split
    · rw [prodN_g1 p a o n, on_g1, g1_xor]
    · exact prodN_g1 p a o n
theorem prod_on (p : Poly) (o : Nat) : ∀ (n a : Nat), prod p (p.on n a) o = p.on n (prod p a o)
  | 0, _ => rfl
  | n + 1, a => by
    rw [on_succ, prod_on p o n, on_succ]
    unfold prod
    rw [prodN_g1]
theorem on_e0 {p : Poly} (G : Good p) : ∀ (j : Nat), j < p.bits → p.on j (e0 p) = 2 ^ (p.bits - 1 - j)
  | 0, _ => rfl
  | j + 1, h => by
    rw [on_succ', on_e0 G j (by omega)]
    have e : (2 : Nat) ^ (p.bits - 1 - j) = 2 * 2 ^ (p.bits - 1 - (j + 1)) := by
      rw [← Nat.pow_succ']
      congr 1
      omega
    unfold g1
    rw [e, if_neg (by omega)]
    omega
theorem prodN_e0 {p : Poly} (G : Good p) (y : Nat) : ∀ (n : Nat), n ≤ p.bits → ∀ i, (prodN p (e0 p) y n).testBit i = (decide (p.bits ≤ i + n) && decide (i < p.bits) && y.testBit i)
  | 0, _, i => by
    show (0 : Nat).testBit i = _
    rw [Nat.zero_testBit]
    by_cases h : p.bits ≤ i
    · have h2 : ¬ i < p.bits := by omega
      simp [h2]
    · simp [h]
  | n + 1, hn, i => by
    unfold prodN
    have ih := prodN_e0 G y n (by omega) i
    split
    · rename_i hb
      rw [Nat.testBit_xor, ih, on_e0 G n (by omega), Nat.testBit_two_pow]
      by_cases h : i = p.bits - 1 - n
      · subst h
        have h1 : ¬ p.bits ≤ p.bits - 1 - n + n := by omega
        have h2 : p.bits ≤ p.bits - 1 - n + (n + 1) := by omega
        have h3 : p.bits - 1 - n < p.bits := by omega
        simp only [hb, h1, h2, h3, decide_true, decide_false, Bool.false_and, Bool.and_true, Bool.false_xor]
      · have h1 : ¬ p.bits - 1 - n = i := fun e => h e.symm
        rw [decide_eq_false h1, Bool.xor_false]
        by_cases h2 : i < p.bits
        · have h3 : (p.bits ≤ i + n) ↔ (p.bits ≤ i + (n + 1)) := by omega
          simp only [h3]
        · simp [h2]
    · rename_i hb
      rw [ih]
      by_cases h : i = p.bits - 1 - n
      · subst h
        rw [Bool.not_eq_true] at hb
        rw [hb, Bool.and_false, Bool.and_false]
      · by_cases h2 : i < p.bits
        · have h3 : (p.bits ≤ i + n) ↔ (p.bits ≤ i + (n + 1)) := by omega
          simp only [h3]
        · simp [h2]
theorem prod_e0 {p : Poly} (G : Good p) {y : Nat} (hy : y < 2 ^ p.bits) : prod p (e0 p) y = y := by
  apply Nat.eq_of_testBit_eq
  intro i
  show (prodN p (e0 p) y p.bits).testBit i = _
  rw [prodN_e0 G y p.bits (Nat.le_refl _) i]
  by_cases h : i < p.bits
  · have h2 : p.bits ≤ i + p.bits := by omega
    simp [h]
  · have h3 : y.testBit i = false := Nat.testBit_lt_two_pow (Nat.lt_of_lt_of_le hy (Nat.pow_le_pow_right (by omega) (by omega)))
    simp [h, h3]
theorem prod_comm {p : Poly} (G : Good p) {x y : Nat} (hx : x < 2 ^ p.bits) (hy : y < 2 ^ p.bits) : prod p x y = prod p y x := by
  have key : ∀ n, prod p (prodN p (e0 p) x n) y = prodN p (prod p (e0 p) y) x n := by
    intro n
    induction n with
    | zero => exact prodN_zero p y p.bits
    | succ n ih =>
      unfold prodN
      split
      · rw [← ih, ← prod_on]
        exact prodN_xor p _ _ y p.bits
      · exact ih
  have h := key p.bits
  have e : prodN p (e0 p) x p.bits = x := prod_e0 G hx
  rw [e, prod_e0 G hy] at h
  exact h
theorem prod_pow {p : Poly} (G : Good p) {x : Nat} (n : Nat) (hx : x < 2 ^ p.bits) : prod p x (p.on n (e0 p)) = p.on n x := by
  rw [prod_comm G hx (on_lt G n (e0_lt G)), prod_on, prod_e0 G hx]
theorem prod_pows {p : Poly} (G : Good p) (m n : Nat) : prod p (p.on m (e0 p)) (p.on n (e0 p)) = p.on (m + n) (e0 p) := by
  rw [prod_pow G n (on_lt G m (e0_lt G)), on_add]
/-! ### the specification's doubling -/
/-- the row tells the images of single bits -/
structure Tells (p : Poly) (m : List Nat) (k : Nat) : Prop where
  len : m.length = p.bits
  at_ : ∀ i, i < p.bits → m.getD i 0 = p.on k (2 ^ i)
theorem image_go (p : Poly) (m : List Nat) (k x : Nat) (T : Tells p m k) : ∀ n, n ≤ p.bits →
    (List.range n).foldl (fun (y i : Nat) => if x.testBit i = true then y ^^^ m.getD i 0 else y) 0 = p.on k (x % 2 ^ n)
  | 0, _ => by
    rw [Nat.pow_zero, Nat.mod_one, on_0]
    rfl
  | n + 1, h => by
    rw [List.range_succ, List.foldl_append, image_go p m k x T n (by omega)]
    show (if x.testBit n = true then p.on k (x % 2 ^ n) ^^^ m.getD n 0 else p.on k (x % 2 ^ n)) = _
    have e : x % 2 ^ (n + 1) = if x.testBit n = true then x % 2 ^ n ^^^ 2 ^ n else x % 2 ^ n := by
      apply Nat.eq_of_testBit_eq
      intro i
      rw [Nat.testBit_mod_two_pow]
      split
      · rename_i hb
        rw [Nat.testBit_xor, Nat.testBit_mod_two_pow, Nat.testBit_two_pow]
        by_cases hi : i = n
        · subst hi
          simp [hb]
        · have h1 : ¬ n = i := fun e => hi e.symm
          have h2 : (i < n + 1) ↔ (i < n) := by omega
          simp [h1, h2]
      · rename_i hb
        rw [Nat.testBit_mod_two_pow]
        by_cases hi : i = n
        · subst hi
          rw [Bool.not_eq_true] at hb
          simp [hb]
        · have h2 : (i < n + 1) ↔ (i < n) := by omega
          simp [h2]
    rw [e]
    split
    · rw [T.at_ n (by omega), on_xor]
    · rfl
theorem image_is {p : Poly} {m : List Nat} {k : Nat} (T : Tells p m k) {x : Nat} (hx : x < 2 ^ p.bits) : image m x = p.on k x := by
  have h := image_go p m k x T p.bits (Nat.le_refl _)
  rw [Nat.mod_eq_of_lt hx] at h
  unfold image
  rw [T.len]
  exact h
theorem pow_lt {p : Poly} {i : Nat} (h : i < p.bits) : 2 ^ i < 2 ^ p.bits := Nat.pow_lt_pow_right (by omega) h
theorem tells_byteOn (p : Poly) : Tells p p.byteOn 8 := by
  refine ⟨by unfold Poly.byteOn; simp, fun i hi => ?_⟩
  unfold Poly.byteOn
  rw [List.getD_eq_getElem?_getD, List.getElem?_map, List.getElem?_range hi]
  rfl
theorem tells_sq {p : Poly} (G : Good p) {m : List Nat} {k : Nat} (T : Tells p m k) : Tells p (m.map (image m)) (k + k) := by
  refine ⟨by rw [List.length_map, T.len], fun i hi => ?_⟩
  have h1 := T.at_ i hi
  have hl : i < m.length := by rw [T.len]; exact hi
  rw [List.getD_eq_getElem?_getD, List.getElem?_eq_getElem hl] at h1
  have h1' : m[i] = p.on k (2 ^ i) := h1
  rw [List.getD_eq_getElem?_getD, List.getElem?_map, List.getElem?_eq_getElem hl]
  show image m m[i] = _
  rw [h1', image_is T (on_lt G k (pow_lt hi)), on_add]
theorem shifted_is {p : Poly} (G : Good p) : ∀ (f : Nat) (m : List Nat) (k n x : Nat), Tells p m k → n < 2 ^ f → x < 2 ^ p.bits → shifted f m n x = p.on (k * n) x
  | 0, m, k, n, x, _, hn, _ => by
    have e : n = 0 := by
      rw [Nat.pow_zero] at hn
      omega
    subst e
    rfl
  | f + 1, m, k, n, x, T, hn, hx => by
    unfold shifted
    by_cases h0 : n = 0
    · subst h0
      rw [if_pos rfl]
      rfl
    · rw [if_neg h0]
      have hn2 : n / 2 < 2 ^ f := by
        rw [Nat.pow_succ] at hn
        omega
      by_cases h1 : n % 2 = 1
      · rw [if_pos h1, image_is T hx, shifted_is G f _ (k + k) (n / 2) _ (tells_sq G T) hn2 (on_lt G k hx), ← on_add]
        congr 1
        have e : n = 2 * (n / 2) + 1 := by omega
        calc k + (k + k) * (n / 2) = k * (2 * (n / 2) + 1) := by
              rw [Nat.mul_add, Nat.mul_one, ← Nat.mul_assoc, Nat.mul_two]
              omega
          _ = k * n := by rw [← e]
      · rw [if_neg h1, shifted_is G f _ (k + k) (n / 2) _ (tells_sq G T) hn2 hx]
        congr 1
        have e : n = 2 * (n / 2) := by omega
        calc (k + k) * (n / 2) = k * (2 * (n / 2)) := by
              rw [← Nat.mul_assoc, Nat.mul_two]
          _ = k * n := by rw [← e]
theorem zeros_is {p : Poly} (G : Good p) {n x : Nat} (hn : n < 2 ^ 64) (hx : x < 2 ^ p.bits) : p.zeros n x = p.on (8 * n) x :=
  shifted_is G 64 p.byteOn 8 n x (tells_byteOn p) hn hx
/-! ### found -/
theorem on_bit {p : Poly} (G : Good p) {j : Nat} (hj : j < 8) : p.on 8 (2 ^ j) = p.on (p.bits + (7 - j)) (e0 p) := by
  have hp := G.pos
  have h := on_e0 G (p.bits - 1 - j) (by omega)
  rw [show p.bits - 1 - (p.bits - 1 - j) = j by omega] at h
  rw [← h, ← on_add]
  congr 1
  omega
/-- what the search of the program tells: none among the first n, the first at t -/
def NoneTill (p : Poly) (d lo hi : Nat) : Prop := ∀ t, lo ≤ t → t < hi → p.on (p.bits + t) (e0 p) ≠ d
theorem bit_iff {p : Poly} (G : Good p) {d x k j : Nat} (hx : x < 2 ^ p.bits) (hd : p.on (8 * k) x = d) (hj : j < 8) : p.on (p.bits + (8 * k + (7 - j))) (e0 p) = d ↔ p.on 8 (2 ^ j) = x := by
  rw [on_bit G hj, ← hd, show p.bits + (8 * k + (7 - j)) = (p.bits + (7 - j)) + 8 * k by omega, on_add]
  constructor
  · exact on_inj G (on_lt G _ (e0_lt G)) hx
  · intro h
    rw [h]
theorem bit_one {p : Poly} (G : Good p) {i j x : Nat} (hi : i < 8) (hj : j < 8) (h1 : p.on 8 (2 ^ i) = x) (h2 : p.on 8 (2 ^ j) = x) : i = j := by
  have hp := G.pos
  have h := on_inj G (pow_lt (by omega)) (pow_lt (by omega)) (h1.trans h2.symm)
  exact (Nat.pow_right_inj (by omega)).mp h
theorem found_is {p : Poly} (G : Good p) {d : Nat} : ∀ (f k x : Nat), x < 2 ^ p.bits → p.on (8 * k) x = d →
    (p.found f k x = none → NoneTill p d (8 * k) (8 * (k + f))) ∧
    (∀ k' j, p.found f k x = some (k', j) → k ≤ k' ∧ k' < k + f ∧ j < 8 ∧ p.on (p.bits + (8 * k' + (7 - j))) (e0 p) = d ∧ NoneTill p d (8 * k) (8 * k' + (7 - j)))
  | 0, k, x, _, _ => by
    refine ⟨fun _ t h1 h2 => ?_, fun k' j h => ?_⟩
    · omega
    · unfold Poly.found at h
      cases h
  | f + 1, k, x, hx, hd => by
    have hp := G.pos
    unfold Poly.found
    cases hf : (List.range 8).find? fun (j : Nat) => p.on 8 (2 ^ j) == x with
    | some j0 =>
      have h1 := List.find?_some hf
      have hm := List.mem_of_find?_eq_some hf
      have h2 : p.on 8 (2 ^ j0) = x := eq_of_beq h1
      have hj : j0 < 8 := List.mem_range.mp hm
      refine ⟨fun h => (by cases h), fun k' j h => ?_⟩
      have e := Option.some.inj h
      have e1 : k = k' := congrArg Prod.fst e
      have e2 : j0 = j := congrArg Prod.snd e
      subst e1 e2
      refine ⟨Nat.le_refl _, by omega, hj, (bit_iff G hx hd hj).mpr h2, fun t t1 t2 ht => ?_⟩
      have ht' : p.on (p.bits + (8 * k + (7 - (7 - (t - 8 * k))))) (e0 p) = d := by
        rw [show 8 * k + (7 - (7 - (t - 8 * k))) = t by omega]
        exact ht
      have h3 := (bit_iff G hx hd (show 7 - (t - 8 * k) < 8 by omega)).mp ht'
      have h4 := bit_one G (by omega) hj h3 h2
      omega
    | none =>
      have hn : ∀ j, j < 8 → p.on 8 (2 ^ j) ≠ x := fun j hj e => by
        have := List.find?_eq_none.mp hf j (List.mem_range.mpr hj)
        exact this (by rw [e]; exact beq_self_eq_true x)
      have hb : p.on (8 * (k + 1)) (p.back 8 x) = d := by
        rw [show 8 * (k + 1) = 8 + 8 * k by omega, on_add, on_back G 8 hx]
        exact hd
      have hN : NoneTill p d (8 * k) (8 * (k + 1)) := fun t t1 t2 ht => by
        have ht' : p.on (p.bits + (8 * k + (7 - (7 - (t - 8 * k))))) (e0 p) = d := by
          rw [show 8 * k + (7 - (7 - (t - 8 * k))) = t by omega]
          exact ht
        exact hn _ (by omega) ((bit_iff G hx hd (show 7 - (t - 8 * k) < 8 by omega)).mp ht')
      obtain ⟨i1, i2⟩ := found_is G f (k + 1) (p.back 8 x) (back_lt G 8 hx) hb
      refine ⟨fun h t t1 t2 => ?_, fun k' j h => ?_⟩
      · by_cases hc : t < 8 * (k + 1)
        · exact hN t t1 hc
        · exact i1 h t (by omega) (by omega)
      · obtain ⟨a1, a2, a3, a4, a5⟩ := i2 k' j h
        refine ⟨by omega, by omega, a3, a4, fun t t1 t2 => ?_⟩
        by_cases hc : t < 8 * (k + 1)
        · exact hN t t1 hc
        · exact a5 t (by omega) t2
end DS

namespace DS
open Sf81
def bints (b : Bytes) : List Int := b.map fun (c : UInt8) => (c.toNat : Int)
theorem ints_len (b : Bytes) : (bints b).length = b.length := List.length_map _
theorem ints_get {b : Bytes} {i : Nat} {c : UInt8} (h : b[i]? = some c) : (bints b)[i]? = some (c.toNat : Int) := by
  unfold bints
  rw [List.getElem?_map, h]
  rfl
theorem ints_take (b : Bytes) (n : Nat) : (bints b).take n = bints (b.take n) := (List.map_take).symm
theorem ints_drop (b : Bytes) (n : Nat) : (bints b).drop n = bints (b.drop n) := (List.map_drop).symm
theorem ints_app (a b : Bytes) : bints (a ++ b) = bints a ++ bints b := List.map_append
theorem byte_lt (c : UInt8) : c.toNat < 256 := c.toNat_lt
theorem ints_inj {a b : Bytes} (h : bints a = bints b) : a = b := by
  unfold bints at h
  exact (List.map_inj_right (fun x y e => by
    apply UInt8.toNat_inj.mp
    omega)).mp h
theorem take_more {α : Type} {l : List α} {i : Nat} {x : α} (h : l[i]? = some x) : l.take (i + 1) = l.take i ++ [x] := by
  rw [List.take_add_one, h]
  rfl
/-! ### raw -/
theorem raw_snoc (p : Poly) (x : Nat) (b : Bytes) (c : UInt8) : p.raw x (b ++ [c]) = p.on 8 (p.raw x b ^^^ c.toNat) := by
  unfold Poly.raw
  rw [List.foldl_append]
  rfl
theorem raw_app (p : Poly) (x : Nat) (a b : Bytes) : p.raw x (a ++ b) = p.raw (p.raw x a) b := by
  unfold Poly.raw
  rw [List.foldl_append]
/-! ### Adler -/
def adlerStep (x : Nat × Nat) (c : UInt8) : Nat × Nat := ((x.1 + c.toNat) % MOD, (x.2 + x.1 + c.toNat) % MOD)
def pyStep (x : Nat × Nat) (c : UInt8) : Nat × Nat := (x.1 + c.toNat, x.2 + (x.1 + c.toNat))
theorem adler_step (x y : Nat × Nat) (c : UInt8) (h1 : y.1 = x.1 % MOD) (h2 : y.2 = x.2 % MOD) : (adlerStep y c).1 = (pyStep x c).1 % MOD ∧ (adlerStep y c).2 = (pyStep x c).2 % MOD := by
  unfold adlerStep pyStep MOD at *
  refine ⟨?_, ?_⟩
  · show (y.1 + c.toNat) % 65521 = (x.1 + c.toNat) % 65521
    omega
  · show (y.2 + y.1 + c.toNat) % 65521 = (x.2 + (x.1 + c.toNat)) % 65521
    omega
theorem adler_fold : ∀ (b : Bytes) (x y : Nat × Nat), y.1 = x.1 % MOD → y.2 = x.2 % MOD → (b.foldl adlerStep y).1 = (b.foldl pyStep x).1 % MOD ∧ (b.foldl adlerStep y).2 = (b.foldl pyStep x).2 % MOD
  | [], _, _, h1, h2 => ⟨h1, h2⟩
  | c :: r, x, y, h1, h2 => by
    have h := adler_step x y c h1 h2
    exact adler_fold r (pyStep x c) (adlerStep y c) h.1 h.2
def adlerPy (s : Nat) (b : Bytes) : Nat × Nat := b.foldl pyStep (s % 65536, s / 65536)
theorem adlerPy_snoc (s : Nat) (b : Bytes) (c : UInt8) : adlerPy s (b ++ [c]) = pyStep (adlerPy s b) c := by
  unfold adlerPy
  rw [List.foldl_append]
  rfl
theorem adler_ok {s : Nat} (h : Kind.adler.ok s = true) : s % 65536 < MOD ∧ s / 65536 < MOD := by
  have h' : (decide (s % 65536 < MOD) && decide (s / 65536 < MOD)) = true := h
  rw [Bool.and_eq_true, decide_eq_true_eq, decide_eq_true_eq] at h'
  exact h'
theorem adler_add {s : Nat} (h : Kind.adler.ok s = true) (b : Bytes) : Kind.adler.add s b = 65536 * ((adlerPy s b).2 % 65521) + (adlerPy s b).1 % 65521 := by
  have hs := adler_ok h
  have e := adler_fold b (s % 65536, s / 65536) (s % 65536, s / 65536) (Nat.mod_eq_of_lt hs.1).symm (Nat.mod_eq_of_lt hs.2).symm
  show (b.foldl adlerStep (s % 65536, s / 65536)).2 * 65536 + (b.foldl adlerStep (s % 65536, s / 65536)).1 = _
  rw [e.1, e.2, Nat.mul_comm]
  rfl
theorem adler_zeros (s n : Nat) : Kind.adler.zeros s n = 65536 * ((s / 65536 + n * (s % 65536)) % 65521) + s % 65536 % 65521 := by
  show (s / 65536 + n % MOD * (s % 65536)) % MOD * 65536 + s % 65536 % MOD = _
  have e : (s / 65536 + n % 65521 * (s % 65536)) % 65521 = (s / 65536 + n * (s % 65536)) % 65521 := by
    rw [Nat.add_mod, Nat.mod_mul_mod, ← Nat.add_mod]
  show (s / 65536 + n % 65521 * (s % 65536)) % 65521 * 65536 + s % 65536 % 65521 = _
  rw [e, Nat.mul_comm]
theorem adler_joined (a b n : Nat) : ((Kind.adler.joined a b n : Nat) : Int) =
    65536 * ((((a / 65536 : Nat) : Int) + ((b / 65536 : Nat) : Int) + (n : Int) * (((a % 65536 : Nat) : Int) - 1)) % 65521) + ((((b % 65536 : Nat) : Int) + (((a % 65536 : Nat) : Int) - 1)) % 65521) := by
  show (((a / 65536 + b / 65536 + n % 65521 * (a % 65536 + 65521 - 1)) % 65521 * 65536 + (a % 65536 + b % 65536 + 65521 - 1) % 65521 : Nat) : Int) = _
  have e1 : (((a % 65536 + b % 65536 + 65521 - 1) % 65521 : Nat) : Int) = (((b % 65536 : Nat) : Int) + (((a % 65536 : Nat) : Int) - 1)) % 65521 := by omega
  have e2 : (a / 65536 + b / 65536 + n % 65521 * (a % 65536 + 65521 - 1)) % 65521 = (a / 65536 + b / 65536 + n * (a % 65536 + 65520)) % 65521 := by
    rw [Nat.add_mod, Nat.mod_mul_mod, ← Nat.add_mod]
    rfl
  have e3 : (((a / 65536 + b / 65536 + n * (a % 65536 + 65520)) % 65521 : Nat) : Int) = (((a / 65536 : Nat) : Int) + ((b / 65536 : Nat) : Int) + (n : Int) * (((a % 65536 : Nat) : Int) - 1)) % 65521 := by
    rw [Int.natCast_emod, Int.natCast_add, Int.natCast_add, Int.natCast_mul, Int.natCast_add]
    have e4 : (n : Int) * (((a % 65536 : Nat) : Int) + ((65520 : Nat) : Int)) = (n : Int) * (((a % 65536 : Nat) : Int) - 1) + 65521 * (n : Int) := by
      rw [show (((a % 65536 : Nat) : Int) + ((65520 : Nat) : Int)) = (((a % 65536 : Nat) : Int) - 1) + 65521 by omega, Int.mul_add, Int.mul_comm (n : Int) 65521]
    rw [e4, ← Int.add_assoc]
    exact Int.add_mul_emod_self_left _ _ _
  rw [Int.natCast_add, Int.natCast_mul, e2, e3, e1, Int.mul_comm]
  rfl
/-! ### the change of a stretch, Adler -/
def chStep (far : Nat) (x : Nat × Nat) (q : (UInt8 × UInt8) × Nat) : Nat × Nat :=
  let d := MOD + q.1.2.toNat - q.1.1.toNat
  (x.1 + d, x.2 + d * ((far - q.2) % MOD))
def chGo (far : Nat) (l : List ((UInt8 × UInt8) × Nat)) : Nat × Nat := l.foldl (chStep far) (0, 0)
theorem chGo_snoc (far : Nat) (l : List ((UInt8 × UInt8) × Nat)) (q : (UInt8 × UInt8) × Nat) : chGo far (l ++ [q]) = chStep far (chGo far l) q := by
  unfold chGo
  rw [List.foldl_append]
  rfl
theorem zipIdx_at {old new : Bytes} {i : Nat} {a b : UInt8} (h1 : old[i]? = some a) (h2 : new[i]? = some b) : (old.zip new).zipIdx[i]? = some ((a, b), i) := by
  rw [List.getElem?_zipIdx]
  have e : (old.zip new)[i]? = some (a, b) := List.getElem?_zip_eq_some.mpr ⟨h1, h2⟩
  rw [e, Nat.zero_add]
  rfl
/-- the program's low and high against the specification's, modulo 65521 -/
def ChRel (s far : Nat) (l : List ((UInt8 × UInt8) × Nat)) (low high : Int) : Prop :=
  (low - (((s % 65536 : Nat) : Int) + ((chGo far l).1 : Int))) % 65521 = 0 ∧ (high - (((s / 65536 : Nat) : Int) + ((chGo far l).2 : Int))) % 65521 = 0
theorem chRel_nil (s far : Nat) : ChRel s far [] ((s % 65536 : Nat) : Int) ((s / 65536 : Nat) : Int) := by
  unfold ChRel chGo
  simp
theorem chRel_snoc {s far : Nat} {l : List ((UInt8 × UInt8) × Nat)} {low high : Int} {a b : UInt8} {i : Nat} (hi : i ≤ far) (h : ChRel s far l low high) :
    ChRel s far (l ++ [((a, b), i)]) (low + ((b.toNat : Int) - (a.toNat : Int))) (high + ((b.toNat : Int) - (a.toNat : Int)) * ((far : Int) - (i : Int))) := by
  unfold ChRel at *
  rw [chGo_snoc]
  generalize chGo far l = x at h ⊢
  obtain ⟨h1, h2⟩ := h
  have ha := byte_lt a
  have hb := byte_lt b
  unfold chStep MOD
  dsimp only
  refine ⟨by omega, ?_⟩
  have ed : ((65521 + b.toNat - a.toNat : Nat) : Int) = 65521 + ((b.toNat : Int) - (a.toNat : Int)) := by omega
  rw [Int.natCast_add, Int.natCast_mul, ed, Int.natCast_emod]
  have ef : ((far - i : Nat) : Int) = (far : Int) - (i : Int) := by omega
  rw [ef]
  have e65 : ((65521 : Nat) : Int) = 65521 := rfl
  rw [e65]
  generalize (b.toNat : Int) - (a.toNat : Int) = D
  generalize (far : Int) - (i : Int) = M
  have em : M % 65521 = M - 65521 * (M / 65521) := by omega
  generalize hq : M / 65521 = q at em
  rw [em, Int.add_mul, Int.mul_sub D, Int.mul_left_comm D]
  generalize D * M = DM
  generalize D * q = Dq
  generalize ((s / 65536 : Nat) : Int) = B at h2 ⊢
  generalize (x.2 : Int) = X at h2 ⊢
  omega
theorem chRel_end {s far : Nat} {l : List ((UInt8 × UInt8) × Nat)} {low high : Int} (h : ChRel s far l low high) :
    65536 * (high % 65521) + low % 65521 = ((adlerOf (s % 65536 + (chGo far l).1) (s / 65536 + (chGo far l).2) : Nat) : Int) := by
  unfold ChRel at h
  unfold adlerOf MOD
  omega
theorem changed_adler (s n : Nat) (old new : Bytes) : Kind.adler.changed s n old new = adlerOf (s % 65536 + (chGo (n + old.length) (old.zip new).zipIdx).1) (s / 65536 + (chGo (n + old.length) (old.zip new).zipIdx).2) := rfl
/-! ### the ones' complement sum -/
def wStep (x : Nat × Bool) (c : UInt8) : Nat × Bool := (x.1 + (if x.2 = true then c.toNat else 256 * c.toNat), !x.2)
theorem wordsSum_eq (odd : Bool) (b : Bytes) : wordsSum odd b = (b.foldl wStep (0, odd)).1 := rfl
theorem w_snd : ∀ (b : Bytes) (x : Nat × Bool), (b.foldl wStep x).2 = (x.2 ^^ (b.length % 2 == 1))
  | [], x => by simp
  | c :: r, x => by
    show (r.foldl wStep (wStep x c)).2 = _
    rw [w_snd r]
    show ((!x.2) ^^ (r.length % 2 == 1)) = (x.2 ^^ ((r.length + 1) % 2 == 1))
    rcases Nat.mod_two_eq_zero_or_one r.length with h | h
    · rw [h, show (r.length + 1) % 2 = 1 by omega]
      cases x.2 <;> rfl
    · rw [h, show (r.length + 1) % 2 = 0 by omega]
      cases x.2 <;> rfl
theorem w_shift : ∀ (b : Bytes) (n : Nat) (o : Bool), (b.foldl wStep (n, o)).1 = n + (b.foldl wStep (0, o)).1
  | [], n, o => rfl
  | c :: r, n, o => by
    show (r.foldl wStep (n + (if o = true then c.toNat else 256 * c.toNat), !o)).1 = n + (r.foldl wStep (0 + (if o = true then c.toNat else 256 * c.toNat), !o)).1
    rw [w_shift r, w_shift r (0 + _)]
    omega
theorem wordsSum_app (o : Bool) (a b : Bytes) : wordsSum o (a ++ b) = wordsSum o a + wordsSum (o ^^ (a.length % 2 == 1)) b := by
  rw [wordsSum_eq, wordsSum_eq, wordsSum_eq, List.foldl_append]
  have h : a.foldl wStep (0, o) = ((a.foldl wStep (0, o)).1, (o ^^ (a.length % 2 == 1))) := by
    rw [← w_snd a (0, o)]
  rw [h, w_shift]
theorem wordsSum_snoc {o : Nat} (ho : o < 2) (b : Bytes) (c : UInt8) : wordsSum (o == 1) (b ++ [c]) = wordsSum (o == 1) b + (if (b.length + o) % 2 = 0 then 256 * c.toNat else c.toNat) := by
  rw [wordsSum_app]
  congr 1
  show 0 + (if ((o == 1) ^^ (b.length % 2 == 1)) = true then c.toNat else 256 * c.toNat) = _
  rw [Nat.zero_add]
  have h2 : o = 0 ∨ o = 1 := by omega
  rcases Nat.mod_two_eq_zero_or_one b.length with h | h <;> rcases h2 with h2 | h2
  · rw [h, h2, if_neg (by decide), if_pos (by omega)]
  · rw [h, h2, if_pos (by decide), if_neg (by omega)]
  · rw [h, h2, if_pos (by decide), if_neg (by omega)]
  · rw [h, h2, if_neg (by decide), if_pos (by omega)]
theorem wordsSum_le (o : Bool) : ∀ (b : Bytes), wordsSum o b ≤ 65280 * b.length := by
  intro b
  rw [wordsSum_eq]
  induction b generalizing o with
  | nil => exact Nat.le_refl 0
  | cons c r ih =>
    show (r.foldl wStep (0 + (if o = true then c.toNat else 256 * c.toNat), !o)).1 ≤ _
    rw [w_shift]
    have h := ih (!o)
    have hc := byte_lt c
    have h3 : (if o = true then c.toNat else 256 * c.toNat) ≤ 65280 := by split <;> omega
    rw [List.length_cons]
    omega
theorem folded_le (n : Nat) : folded n < 65536 := by
  unfold folded
  split <;> omega
theorem folded_int (n : Nat) : ((folded n : Nat) : Int) = if (n : Int) = 0 then 0 else ((n : Int) - 1) % 65535 + 1 := by
  unfold folded
  by_cases h : n = 0
  · rw [if_pos h, if_pos (by omega)]
    rfl
  · rw [if_neg h, if_neg (by omega)]
    omega
theorem folded_add (x y : Nat) : folded (x + folded y) = folded (x + y) := by
  unfold folded
  by_cases h : y = 0
  · rw [if_pos h, h]
  · rw [if_neg h, if_neg (by omega), if_neg (by omega)]
    omega
theorem ones_ok {s : Nat} (h : Kind.ones.ok s = true) : s < 131072 := of_decide_eq_true h
theorem ones_add (s : Nat) (b : Bytes) : Kind.ones.add s b = folded (s % 65536 + wordsSum (s / 65536 == 1) b) + 65536 * ((s / 65536 + b.length) % 2) := rfl
theorem ones_joined (a b n : Nat) : Kind.ones.joined a b n = folded (a % 65536 + (if a / 65536 = 1 then 256 * (b % 65536) else b % 65536)) + 65536 * ((a / 65536 + n) % 2) := by
  show folded (a % 65536 + (if a / 65536 = 1 then folded (256 * (b % 65536)) else b % 65536)) + 65536 * ((a / 65536 + n) % 2) = _
  split
  · rw [folded_add]
  · rfl
theorem ones_changed {s n : Nat} {old new : Bytes} (h : old.length ≤ 65536) : ((Kind.ones.changed s n old new : Nat) : Int) =
    ((((s % 65536 : Nat) : Int) - ((wordsSum ((s / 65536 + n + old.length) % 2 == 1) old : Nat) : Int) + ((wordsSum ((s / 65536 + n + old.length) % 2 == 1) new : Nat) : Int)) - 1) % 65535 + 1 + 65536 * ((s / 65536 : Nat) : Int) := by
  have hl := wordsSum_le ((s / 65536 + n + old.length) % 2 == 1) old
  show (((if (s % 65536 + 65535 * 65536 + wordsSum ((s / 65536 + n + old.length) % 2 == 1) new - wordsSum ((s / 65536 + n + old.length) % 2 == 1) old) % 65535 = 0 then 65535
    else (s % 65536 + 65535 * 65536 + wordsSum ((s / 65536 + n + old.length) % 2 == 1) new - wordsSum ((s / 65536 + n + old.length) % 2 == 1) old) % 65535) + 65536 * (s / 65536) : Nat) : Int) = _
  generalize wordsSum ((s / 65536 + n + old.length) % 2 == 1) old = A at *
  generalize wordsSum ((s / 65536 + n + old.length) % 2 == 1) new = B at *
  split <;> omega
/-! ### a state behind more bytes is a state, and goes on -/
theorem ones_add_ok (s : Nat) (b : Bytes) : Kind.ones.ok (Kind.ones.add s b) = true := by
  have h := folded_le (s % 65536 + wordsSum (s / 65536 == 1) b)
  apply decide_eq_true
  show folded (s % 65536 + wordsSum (s / 65536 == 1) b) + 65536 * ((s / 65536 + b.length) % 2) < 131072
  omega
theorem adler_add_lt (_s : Nat) (b : Bytes) : ∀ (x : Nat × Nat), x.1 < MOD → x.2 < MOD → (b.foldl adlerStep x).1 < MOD ∧ (b.foldl adlerStep x).2 < MOD := by
  induction b with
  | nil => exact fun x h1 h2 => ⟨h1, h2⟩
  | cons c r ih => exact fun x h1 h2 => ih (adlerStep x c) (Nat.mod_lt _ (by decide)) (Nat.mod_lt _ (by decide))
theorem adler_pack {x y : Nat} (hx : x < MOD) (_hy : y < MOD) : (y * 65536 + x) % 65536 = x ∧ (y * 65536 + x) / 65536 = y := by
  unfold MOD at *
  omega
theorem adler_add_ok {s : Nat} (h : Kind.adler.ok s = true) (b : Bytes) : Kind.adler.ok (Kind.adler.add s b) = true := by
  have hs := adler_ok h
  have hx := adler_add_lt s b (s % 65536, s / 65536) hs.1 hs.2
  have e := adler_pack hx.1 hx.2
  show (decide (((b.foldl adlerStep (s % 65536, s / 65536)).2 * 65536 + (b.foldl adlerStep (s % 65536, s / 65536)).1) % 65536 < MOD) && decide (((b.foldl adlerStep (s % 65536, s / 65536)).2 * 65536 + (b.foldl adlerStep (s % 65536, s / 65536)).1) / 65536 < MOD)) = true
  rw [e.1, e.2, decide_eq_true hx.1, decide_eq_true hx.2]
  rfl
theorem adler_add_app {s : Nat} (h : Kind.adler.ok s = true) (a b : Bytes) : Kind.adler.add (Kind.adler.add s a) b = Kind.adler.add s (a ++ b) := by
  have hs := adler_ok h
  have hx := adler_add_lt s a (s % 65536, s / 65536) hs.1 hs.2
  have e := adler_pack hx.1 hx.2
  have e1 : Kind.adler.add s a % 65536 = (a.foldl adlerStep (s % 65536, s / 65536)).1 := e.1
  have e2 : Kind.adler.add s a / 65536 = (a.foldl adlerStep (s % 65536, s / 65536)).2 := e.2
  show (b.foldl adlerStep (Kind.adler.add s a % 65536, Kind.adler.add s a / 65536)).2 * 65536 + (b.foldl adlerStep (Kind.adler.add s a % 65536, Kind.adler.add s a / 65536)).1 = ((a ++ b).foldl adlerStep (s % 65536, s / 65536)).2 * 65536 + ((a ++ b).foldl adlerStep (s % 65536, s / 65536)).1
  rw [e1, e2, List.foldl_append]
theorem ones_add_app {s : Nat} (h : Kind.ones.ok s = true) (a b : Bytes) : Kind.ones.add (Kind.ones.add s a) b = Kind.ones.add s (a ++ b) := by
  have hs := ones_ok h
  have hf := folded_le (s % 65536 + wordsSum (s / 65536 == 1) a)
  have e1 : Kind.ones.add s a % 65536 = folded (s % 65536 + wordsSum (s / 65536 == 1) a) := by
    rw [ones_add]
    omega
  have e2 : Kind.ones.add s a / 65536 = (s / 65536 + a.length) % 2 := by
    rw [ones_add]
    omega
  rw [ones_add (Kind.ones.add s a) b, e1, e2, Nat.add_comm (folded _) (wordsSum _ _), folded_add, ones_add, wordsSum_app, List.length_append]
  have e3 : ((s / 65536 + a.length) % 2 == 1) = ((s / 65536 == 1) ^^ (a.length % 2 == 1)) := by
    have h2 : s / 65536 = 0 ∨ s / 65536 = 1 := by omega
    rcases Nat.mod_two_eq_zero_or_one a.length with q | q <;> rcases h2 with h2 | h2
    · rw [q, h2, show (0 + a.length) % 2 = 0 by omega]
      rfl
    · rw [q, h2, show (1 + a.length) % 2 = 1 by omega]
      rfl
    · rw [q, h2, show (0 + a.length) % 2 = 1 by omega]
      rfl
    · rw [q, h2, show (1 + a.length) % 2 = 0 by omega]
      rfl
  rw [e3]
  congr 1
  · congr 1
    omega
  · omega
/-! ### the bytes of a number -/
theorem be_get : ∀ (k x i : Nat), i < k → (bints (be k x))[i]? = some (((x / 256 ^ (k - 1 - i) % 256 : Nat)) : Int)
  | 0, _, _, h => by omega
  | k + 1, x, 0, _ => by
    show some (((UInt8.ofNat (x / 256 ^ k % 256)).toNat : Nat) : Int) = _
    rw [UInt8.toNat_ofNat', show (2 : Nat) ^ 8 = 256 from rfl, Nat.mod_mod]
    rfl
  | k + 1, x, i + 1, h => by
    show (bints (be k x))[i]? = _
    rw [be_get k x i (by omega)]
    congr 5
    omega
theorem be_len : ∀ (k x : Nat), (be k x).length = k
  | 0, _ => rfl
  | k + 1, x => by
    show (be k x).length + 1 = k + 1
    rw [be_len k x]
theorem be_zero : ∀ (k : Nat), bints (be k 0) = List.replicate k 0
  | 0 => rfl
  | k + 1 => by
    show (((UInt8.ofNat (0 / 256 ^ k % 256)).toNat : Nat) : Int) :: bints (be k 0) = 0 :: List.replicate k 0
    rw [be_zero k, Nat.zero_div]
    rfl
theorem filled_get (p : Poly) (s want i : Nat) (h : i < p.bits / 8) : (bints (p.filled s want))[i]? = some ((((p.back p.bits (want ^^^ p.ones) ^^^ (s ^^^ p.ones)) / 256 ^ i % 256 : Nat)) : Int) := by
  unfold bints Poly.filled
  rw [List.getElem?_map, List.getElem?_map, List.getElem?_range h]
  show some (((UInt8.ofNat _).toNat : Nat) : Int) = _
  rw [UInt8.toNat_ofNat', show (2 : Nat) ^ 8 = 256 from rfl, Nat.mod_mod]
theorem filled_len (p : Poly) (s want : Nat) : (p.filled s want).length = p.bits / 8 := by
  unfold Poly.filled
  rw [List.length_map, List.length_range]
theorem pow256 (i : Nat) : (2 : Nat) ^ (8 * i) = 256 ^ i := by
  rw [Nat.pow_mul]
end DS

namespace DS
open Sf81
def IsP (k : Int) (p : Poly) : Prop := (k = 0 ∧ p = CRC32) ∨ (k = 1 ∧ p = CRC64)
theorem IsP.good {k : Int} {p : Poly} (h : IsP k p) : Good p := by
  rcases h with ⟨_, rfl⟩ | ⟨_, rfl⟩
  · exact good32
  · exact good64
theorem IsP.k01 {k : Int} {p : Poly} (h : IsP k p) : k = 0 ∨ k = 1 := by
  rcases h with ⟨h, _⟩ | ⟨h, _⟩
  · exact .inl h
  · exact .inr h
theorem IsP.bits {k : Int} {p : Poly} (h : IsP k p) : p.bits = 32 ∨ p.bits = 64 := by
  rcases h with ⟨_, rfl⟩ | ⟨_, rfl⟩
  · exact .inl rfl
  · exact .inr rfl
theorem IsP.le64 {k : Int} {p : Poly} (h : IsP k p) : p.bits ≤ 64 := by
  have := h.bits
  omega
theorem IsP.lt64 {k : Int} {p : Poly} (h : IsP k p) {x : Nat} (hx : x < 2 ^ p.bits) : x < 2 ^ 64 :=
  Nat.lt_of_lt_of_le hx (Nat.pow_le_pow_right (by omega) h.le64)
theorem isP_of {k : Int} (h : k = 0 ∨ k = 1) : ∃ p, IsP k p := by
  rcases h with h | h
  · exact ⟨_, .inl ⟨h, rfl⟩⟩
  · exact ⟨_, .inr ⟨h, rfl⟩⟩
theorem kd_cases {k : Int} {kd : Kind} (h : kindOf k = some kd) : (∃ p, IsP k p ∧ kd = .crc p) ∨ (k = 2 ∧ kd = .ones) ∨ (k = 3 ∧ kd = .adler) := by
  unfold kindOf at h
  split at h
  · exact .inl ⟨_, .inl ⟨by assumption, rfl⟩, (Option.some.inj h).symm⟩
  · split at h
    · exact .inl ⟨_, .inr ⟨by assumption, rfl⟩, (Option.some.inj h).symm⟩
    · split at h
      · exact .inr (.inl ⟨by assumption, (Option.some.inj h).symm⟩)
      · split at h
        · exact .inr (.inr ⟨by assumption, (Option.some.inj h).symm⟩)
        · cases h
theorem kd_p {k : Int} {p : Poly} (h : IsP k p) : kindOf k = some (.crc p) := by
  rcases h with ⟨rfl, rfl⟩ | ⟨rfl, rfl⟩ <;> rfl
theorem kd_some {k : Int} (h : 0 ≤ k ∧ k ≤ 3) : ∃ kd, kindOf k = some kd := by
  have h2 : k = 0 ∨ k = 1 ∨ k = 2 ∨ k = 3 := by omega
  rcases h2 with rfl | rfl | rfl | rfl
  · exact ⟨_, rfl⟩
  · exact ⟨_, rfl⟩
  · exact ⟨_, rfl⟩
  · exact ⟨_, rfl⟩
theorem kd_none {k : Int} (h : ¬ (0 ≤ k ∧ k ≤ 3)) : kindOf k = none := by
  unfold kindOf
  rw [if_neg (by omega), if_neg (by omega), if_neg (by omega), if_neg (by omega)]
theorem kd_in {k : Int} {kd : Kind} (h : kindOf k = some kd) : 0 ≤ k ∧ k ≤ 3 := by
  rcases kd_cases h with ⟨p, hp, _⟩ | ⟨h, _⟩ | ⟨h, _⟩
  · have := hp.k01
    omega
  · omega
  · omega
theorem kd_2 {k : Int} {kd : Kind} (h : kindOf k = some kd) (e : k = 2) : kd = .ones := by
  rcases kd_cases h with ⟨p, hp, _⟩ | ⟨_, h⟩ | ⟨h, _⟩
  · have := hp.k01
    omega
  · exact h
  · omega
theorem kd_3 {k : Int} {kd : Kind} (h : kindOf k = some kd) (e : k = 3) : kd = .adler := by
  rcases kd_cases h with ⟨p, hp, _⟩ | ⟨h, _⟩ | ⟨_, h⟩
  · have := hp.k01
    omega
  · omega
  · exact h
theorem begin_0 {k : Int} {kd : Kind} (h : kindOf k = some kd) (e : ¬ k = 3) : kd.begin_ = 0 := by
  rcases kd_cases h with ⟨p, hp, rfl⟩ | ⟨_, rfl⟩ | ⟨h, _⟩
  · rfl
  · rfl
  · exact absurd h e
theorem sum_same {k : Int} {kd : Kind} (h : kindOf k = some kd) (e : ¬ k = 2) (s : Nat) : kd.sum s = s := by
  rcases kd_cases h with ⟨p, hp, rfl⟩ | ⟨h, _⟩ | ⟨_, rfl⟩
  · rfl
  · exact absurd h e
  · rfl
/-- the words of the answer where the kind is known, where it is not -/
theorem ofKind_some {k : Int} {kd : Kind} (h : kindOf k = some kd) (f : Kind → Ans) : ofKind k f = f kd := by
  unfold ofKind
  rw [h]
theorem ofKind_none {k : Int} (h : kindOf k = none) (f : Kind → Ans) : ofKind k f = says (-1) := by
  unfold ofKind
  rw [h]
theorem ofCrc_some {k : Int} {p : Poly} (h : IsP k p) (f : Poly → Ans) : ofCrc k f = f p := by
  unfold ofCrc
  rw [kd_p h]
theorem ofCrc_none {k : Int} (h : ¬ (k = 0 ∨ k = 1)) (f : Poly → Ans) : ofCrc k f = says (-1) := by
  unfold ofCrc
  by_cases h3 : 0 ≤ k ∧ k ≤ 3
  · obtain ⟨kd, e⟩ := kd_some h3
    rcases kd_cases e with ⟨p, hp, _⟩ | ⟨_, e2⟩ | ⟨_, e2⟩
    · exact absurd hp.k01 h
    · rw [e, e2]
    · rw [e, e2]
  · rw [kd_none h3]
/-! ### by bits: a state, its turn -/
theorem ones_lt (p : Poly) : p.ones < 2 ^ p.bits := by
  have := Nat.two_pow_pos p.bits
  unfold Poly.ones
  omega
theorem turn_lt {p : Poly} {x : Nat} (h : x < 2 ^ p.bits) : x ^^^ p.ones < 2 ^ p.bits := Nat.xor_lt_two_pow h (ones_lt p)
theorem raw_lt {p : Poly} (G : Good p) : ∀ (b : Bytes) {x : Nat}, x < 2 ^ p.bits → p.raw x b < 2 ^ p.bits
  | [], _, h => h
  | c :: r, x, h => by
    show p.raw (p.on 8 (x ^^^ c.toNat)) r < _
    refine raw_lt G r (on_lt G 8 (Nat.xor_lt_two_pow h ?_))
    have h1 := byte_lt c
    have h2 : 2 ^ 8 ≤ 2 ^ p.bits := Nat.pow_le_pow_right (by omega) G.pos
    omega
theorem xor_byte_lt {p : Poly} (G : Good p) {x c : Nat} (h : x < 2 ^ p.bits) (hc : c < 256) : x ^^^ c < 2 ^ p.bits := by
  refine Nat.xor_lt_two_pow h ?_
  have h2 : 2 ^ 8 ≤ 2 ^ p.bits := Nat.pow_le_pow_right (by omega) G.pos
  omega
theorem crc_ok {p : Poly} {s : Nat} (h : (Kind.crc p).ok s = true) : s < 2 ^ p.bits := of_decide_eq_true h
theorem crc_add_lt {p : Poly} (G : Good p) {s : Nat} (b : Bytes) (h : s < 2 ^ p.bits) : (Kind.crc p).add s b < 2 ^ p.bits := turn_lt (raw_lt G b (turn_lt h))
theorem add_ok {k : Int} {kd : Kind} (hk : kindOf k = some kd) {s : Nat} (h : kd.ok s = true) (b : Bytes) : kd.ok (kd.add s b) = true := by
  rcases kd_cases hk with ⟨p, hp, rfl⟩ | ⟨_, rfl⟩ | ⟨_, rfl⟩
  · exact decide_eq_true (crc_add_lt hp.good b (crc_ok h))
  · exact ones_add_ok s b
  · exact adler_add_ok h b
theorem add_app {k : Int} {kd : Kind} (hk : kindOf k = some kd) {s : Nat} (h : kd.ok s = true) (a b : Bytes) : kd.add (kd.add s a) b = kd.add s (a ++ b) := by
  rcases kd_cases hk with ⟨p, hp, rfl⟩ | ⟨_, rfl⟩ | ⟨_, rfl⟩
  · show p.raw ((p.raw (s ^^^ p.ones) a ^^^ p.ones) ^^^ p.ones) b ^^^ p.ones = p.raw (s ^^^ p.ones) (a ++ b) ^^^ p.ones
    rw [Nat.xor_assoc (p.raw _ a), Nat.xor_self, Nat.xor_zero, raw_app]
  · exact ones_add_app h a b
  · exact adler_add_app h a b
theorem begin_ok {k : Int} {kd : Kind} (hk : kindOf k = some kd) : kd.ok kd.begin_ = true := by
  rcases kd_cases hk with ⟨p, hp, rfl⟩ | ⟨_, rfl⟩ | ⟨_, rfl⟩
  · exact decide_eq_true (Nat.two_pow_pos _)
  · rfl
  · rfl
theorem ok_lt64 {k : Int} {kd : Kind} (hk : kindOf k = some kd) {s : Nat} (h : kd.ok s = true) : s < 2 ^ 64 := by
  rcases kd_cases hk with ⟨p, hp, rfl⟩ | ⟨_, rfl⟩ | ⟨_, rfl⟩
  · exact hp.lt64 (crc_ok h)
  · have := ones_ok h
    omega
  · have := adler_ok h
    unfold MOD at this
    omega
/-- the sum of the texts one behind another -/
theorem add_nil {k : Int} {kd : Kind} (hk : kindOf k = some kd) : kd.add kd.begin_ [] = kd.begin_ := by
  rcases kd_cases hk with ⟨p, hp, rfl⟩ | ⟨_, rfl⟩ | ⟨_, rfl⟩
  · show (0 ^^^ p.ones) ^^^ p.ones = 0
    rw [Nat.xor_assoc, Nat.xor_self, Nat.xor_zero]
  · rfl
  · rfl
theorem state_app {k : Int} {kd : Kind} (hk : kindOf k = some kd) (a b : Bytes) : kd.add (kd.state a) b = kd.state (a ++ b) := add_app hk (begin_ok hk) a b
/-! ### joined, zeros, changed by bits -/
theorem crc_joined {p : Poly} (G : Good p) {a b n : Nat} (ha : a < 2 ^ p.bits) (hn : n < 2 ^ 64) : (Kind.crc p).joined a b n = prod p a (p.on (8 * n) (e0 p)) ^^^ b := by
  show p.zeros n a ^^^ b = _
  rw [zeros_is G hn ha, prod_pow G _ ha]
theorem crc_zeros {p : Poly} (G : Good p) {s n : Nat} (hs : s < 2 ^ p.bits) (hn : n < 2 ^ 64) : (Kind.crc p).zeros s n = prod p (s ^^^ p.ones) (p.on (8 * n) (e0 p)) ^^^ p.ones := by
  show p.zeros n (s ^^^ p.ones) ^^^ p.ones = _
  rw [zeros_is G hn (turn_lt hs), prod_pow G _ (turn_lt hs)]
def unlike (old new : Bytes) : Bytes := (old.zip new).map fun (x : UInt8 × UInt8) => x.1 ^^^ x.2
theorem crc_changed {p : Poly} (G : Good p) {s n : Nat} {old new : Bytes} (hn : n < 2 ^ 64) : (Kind.crc p).changed s n old new = s ^^^ prod p (p.raw 0 (unlike old new)) (p.on (8 * n) (e0 p)) := by
  have h := raw_lt G (unlike old new) (Nat.two_pow_pos p.bits)
  show s ^^^ p.zeros n (p.raw 0 (unlike old new)) = _
  rw [zeros_is G hn h, prod_pow G _ h]
theorem unlike_len {old new : Bytes} (h : new.length = old.length) : (unlike old new).length = old.length := by
  unfold unlike
  rw [List.length_map, List.length_zip, h, Nat.min_self]
theorem unlike_get {old new : Bytes} {i : Nat} {a b : UInt8} (h1 : old[i]? = some a) (h2 : new[i]? = some b) : (unlike old new)[i]? = some (a ^^^ b) := by
  unfold unlike
  rw [List.getElem?_map, (List.getElem?_zip_eq_some (z := (a, b))).mpr ⟨h1, h2⟩]
  rfl
theorem xor_u8 (a b : UInt8) : (a ^^^ b).toNat = a.toNat ^^^ b.toNat := UInt8.toNat_xor a b
/-! ### found -/
/-- what the search of the program answers -/
def foundAns (p : Poly) (many d : Nat) : Int := match p.found many 0 d with
  | some x => ((8 * (many - 1 - x.1) + x.2 : Nat) : Int)
  | none => -2
theorem found_at {p : Poly} (G : Good p) {many d t : Nat} (hd : d < 2 ^ p.bits) (ht : t < 8 * many) (h1 : ∀ t', t' < t → p.on (p.bits + t') (e0 p) ≠ d) (h2 : p.on (p.bits + t) (e0 p) = d) :
    foundAns p many d = (8 * many - 1 - t : Int) := by
  obtain ⟨a1, a2⟩ := found_is G (d := d) many 0 d hd rfl
  unfold foundAns
  cases hf : p.found many 0 d with
  | none => exact absurd h2 (a1 hf t (by omega) (by omega))
  | some x =>
    obtain ⟨b1, b2, b3, b4, b5⟩ := a2 x.1 x.2 hf
    have e : t = 8 * x.1 + (7 - x.2) := by
      rcases Nat.lt_trichotomy t (8 * x.1 + (7 - x.2)) with q | q | q
      · exact absurd h2 (b5 t (by omega) q)
      · exact q
      · exact absurd b4 (h1 _ q)
    show ((8 * (many - 1 - x.1) + x.2 : Nat) : Int) = _
    omega
theorem found_none {p : Poly} (G : Good p) {many d : Nat} (hd : d < 2 ^ p.bits) (h1 : ∀ t', t' < 8 * many → p.on (p.bits + t') (e0 p) ≠ d) : foundAns p many d = -2 := by
  obtain ⟨a1, a2⟩ := found_is G (d := d) many 0 d hd rfl
  unfold foundAns
  cases hf : p.found many 0 d with
  | none => rfl
  | some x =>
    obtain ⟨b1, b2, b3, b4, b5⟩ := a2 x.1 x.2 hf
    exact absurd b4 (h1 _ (by omega))
end DS

/-! ### the layer: what stands behind the top -/
namespace DS
open PySem PySem.Spec PyProof.Rows L2
open Sf81 (Poly Bytes CRC32 CRC64 kindOf)
abbrev SKind := Sf81.Kind
def top (i : Nat) : Stmt := PySem.Challenge.pw_damagesums_s08_put.main.body.getD i (.Pass ⟨0, 0, 0, 0⟩)
section
variable {P : Program} {w : World} {K : PySem.W.Frag} {mg : Str → Option Value} {base : Heap}
def Num (mg : Str → Option Value) (x : Str) (i : Int) : Prop := ∃ t, mg x = some (.int i t)
def Tup (K : PySem.W.Frag) (mg : Str → Option Value) (x : Str) (xs : List V) : Prop := ∃ a, mg x = some (.ref a) ∧ ∀ H, SqT K H a xs
/-- a def that may be called -/
def Cal (P : Program) (w : World) (K : PySem.W.Frag) (mg : Str → Option Value) (base : Heap) (x : Str) (k : Nat) (ps : List Str) (sp : Sp) : Prop :=
  ∃ f fd, FnOk P w K mg base CX0 k f fd ps sp ∧ mg x = some (.ref f) ∧ PySem.W.keepIn K (.ref f) = true ∧ Binds K fd ps [] ∧ ∃ oc od osl, K.lookup f = some ⟨oc, od, .func fd, osl⟩
theorem fun_lk {x : Str} {st : Stmt} {f : Addr} {fd : FuncData} (F : Fun K x x st f fd) : ∃ oc od osl, K.lookup f = some ⟨oc, od, .func fd, osl⟩ := by
  obtain ⟨oc, od, kV, doc, pm, an, cdv, ct, osl, e1, lk, hcd⟩ := F.ex
  exact ⟨oc, od, osl, lk⟩
/-- a def as the top has left it -/
def Df (K : PySem.W.Frag) (mg : Str → Option Value) (x : Str) (st : Stmt) (ps : List Str) : Prop :=
  ∃ f fd, Fun K x x st f fd ∧ mg x = some (.ref f) ∧ Binds K fd ps []
theorem num_mk {h : Heap} {x : Str} {i : Int} {t : Tok} (X : K.In h) (G : h.Ns mainGlobals mg) (a : PySem.W.nsIn K mainGlobals x = some (some (.int i t))) : Num mg x i := ⟨t, PySem.W.mg_of X G a⟩
theorem tup2_mk {h : Heap} {x : Str} {i j : Int} {t u : Tok} {p : Addr} {od : Option Addr} {n : Nat} {sl : Array (Option Value)} (X : K.In h) (G : h.Ns mainGlobals mg) (a : PySem.W.nsIn K mainGlobals x = some (some (.ref p)))
    (l : K.lookup p = some ⟨.type "tuple", od, .seq #[.int i t, .int j u] n, sl⟩) : Tup K mg x [.int i, .int j] :=
  ⟨p, PySem.W.mg_of X G a, fun _ => .inr ⟨_, _, _, l, rfl, rfl, (by show 2 ≤ sizeLine; decide), .cons ⟨_, rfl⟩ (.cons ⟨_, rfl⟩ .nil)⟩⟩
theorem tup4_mk {h : Heap} {x : Str} {i j i2 j2 : Int} {t u t2 u2 : Tok} {p : Addr} {od : Option Addr} {n : Nat} {sl : Array (Option Value)} (X : K.In h) (G : h.Ns mainGlobals mg) (a : PySem.W.nsIn K mainGlobals x = some (some (.ref p)))
    (l : K.lookup p = some ⟨.type "tuple", od, .seq #[.int i t, .int j u, .int i2 t2, .int j2 u2] n, sl⟩) : Tup K mg x [.int i, .int j, .int i2, .int j2] :=
  ⟨p, PySem.W.mg_of X G a, fun _ => .inr ⟨_, _, _, l, rfl, rfl, (by show 4 ≤ sizeLine; decide), .cons ⟨_, rfl⟩ (.cons ⟨_, rfl⟩ (.cons ⟨_, rfl⟩ (.cons ⟨_, rfl⟩ .nil)))⟩⟩
theorem df_mk {h : Heap} {x : Str} {st : Stmt} {ps : List Str} {f : Addr} {oc : Value} {od an : Option Addr} {osl : Array (Option Value)} {kV doc pm cdv ct : Value} (X : K.In h) (G : h.Ns mainGlobals mg)
    (a : PySem.W.nsIn K mainGlobals x = some (some (.ref f))) (l : K.lookup f = some ⟨oc, od, .func (PySem.W.fnOf x x (defArgs st) (defBody st) (defScope st) .none kV doc pm an cdv ct), osl⟩)
    (c : PySem.W.codeIn K cdv x = true) (k : PySem.W.keepIn K (.ref f) = true)
    (b : ∀ (kV doc pm : Value) (an : Option Addr) (cdv ct : Value) (us : List Value), us.length = ps.length → bindArgs (PySem.W.fnOf x x (defArgs st) (defBody st) (defScope st) .none kV doc pm an cdv ct) ⟨us, []⟩ = pure (ps.zip us)) : Df K mg x st ps :=
  have F := fun_mk (st := st) l c k
  ⟨_, _, F, PySem.W.mg_of X G a, F.binds b⟩
/-! the same, the rest of the proof behind it -/
theorem num_with {C : Prop} {h : Heap} {x : Str} {i : Int} {t : Tok} (X : K.In h) (G : h.Ns mainGlobals mg) (a : PySem.W.nsIn K mainGlobals x = some (some (.int i t))) (q : Num mg x i → C) : C := q (num_mk X G a)
theorem none_with {C : Prop} {h : Heap} {x : Str} (X : K.In h) (G : h.Ns mainGlobals mg) (a : PySem.W.nsIn K mainGlobals x = some none) (q : mg x = none → C) : C := q (PySem.W.mg_none_of X G a)
theorem tup2_with {C : Prop} {h : Heap} {x : Str} {i j : Int} {t u : Tok} {p : Addr} {od : Option Addr} {n : Nat} {sl : Array (Option Value)} (X : K.In h) (G : h.Ns mainGlobals mg) (a : PySem.W.nsIn K mainGlobals x = some (some (.ref p)))
    (l : K.lookup p = some ⟨.type "tuple", od, .seq #[.int i t, .int j u] n, sl⟩) (q : Tup K mg x [.int i, .int j] → C) : C := q (tup2_mk X G a l)
theorem tup4_with {C : Prop} {h : Heap} {x : Str} {i j i2 j2 : Int} {t u t2 u2 : Tok} {p : Addr} {od : Option Addr} {n : Nat} {sl : Array (Option Value)} (X : K.In h) (G : h.Ns mainGlobals mg) (a : PySem.W.nsIn K mainGlobals x = some (some (.ref p)))
    (l : K.lookup p = some ⟨.type "tuple", od, .seq #[.int i t, .int j u, .int i2 t2, .int j2 u2] n, sl⟩) (q : Tup K mg x [.int i, .int j, .int i2, .int j2] → C) : C := q (tup4_mk X G a l)
theorem df_with {C : Prop} {h : Heap} {x : Str} {st : Stmt} {ps : List Str} {f : Addr} {oc : Value} {od an : Option Addr} {osl : Array (Option Value)} {kV doc pm cdv ct : Value} (X : K.In h) (G : h.Ns mainGlobals mg)
    (a : PySem.W.nsIn K mainGlobals x = some (some (.ref f))) (l : K.lookup f = some ⟨oc, od, .func (PySem.W.fnOf x x (defArgs st) (defBody st) (defScope st) .none kV doc pm an cdv ct), osl⟩)
    (c : PySem.W.codeIn K cdv x = true) (k : PySem.W.keepIn K (.ref f) = true)
    (b : ∀ (kV doc pm : Value) (an : Option Addr) (cdv ct : Value) (us : List Value), us.length = ps.length → bindArgs (PySem.W.fnOf x x (defArgs st) (defBody st) (defScope st) .none kV doc pm an cdv ct) ⟨us, []⟩ = pure (ps.zip us))
    (q : Df K mg x st ps → C) : C := q (df_mk X G a l c k b)
theorem binds_end {x : Str} {st : Stmt} {ps : List Str} {f : Addr} {fd : FuncData} (F : Fun K x x st f fd)
    (b : ∀ (kV doc pm : Value) (an : Option Addr) (cdv ct : Value) (us : List Value), us.length = ps.length → bindArgs (PySem.W.fnOf x x (defArgs st) (defBody st) (defScope st) .none kV doc pm an cdv ct) ⟨us, []⟩ = pure (ps.zip us)) :
    ∀ (s : Shared) (us : List Value), us.length = ps.length → BindsTo s fd ⟨us, []⟩ (ps.zip us) := fun s us hl => by
  obtain ⟨oc, od, kV, doc, pm, an, cdv, ct, osl, rfl, lk, hcd⟩ := F.ex
  exact .of_eq (b kV doc pm an cdv ct us hl)
theorem cal_end {x : Str} {st : Stmt} {ps : List Str} {f : Addr} {fd : FuncData} {k : Nat} {sp : Sp} (F : Fun K x x st f fd) (m : mg x = some (.ref f)) (C : Cal P w K mg base x k ps sp) : FnOk P w K mg base CX0 k f fd ps sp := by
  obtain ⟨f2, fd2, G, m2, k2, b2, oc2, od2, osl2, lk2⟩ := C
  have e := m.symm.trans m2
  cases e
  obtain ⟨oc, od, osl, lk⟩ := fun_lk F
  have e2 := lk.symm.trans lk2
  cases e2
  exact G
/-- what is handed back, by its value -/
theorem qi {Q : VK} {H : Hp} {i j : Int} (q : Q (.int j) H) (e : i = j) : Q (.int i) H := by
  rw [e]
  exact q
theorem qb {Q : VK} {H : Hp} {i j : Bool} (q : Q (.bl j) H) (e : i = j) : Q (.bl i) H := by
  rw [e]
  exact q
theorem bx (a b : Nat) : Builtin.bitXor (a : Int) (b : Int) = ((a ^^^ b : Nat) : Int) := by
  rw [Bits.bitXor_pp (Int.natCast_nonneg _) (Int.natCast_nonneg _), Int.toNat_natCast, Int.toNat_natCast]
theorem band255 (a : Nat) : Builtin.bitAnd (a : Int) 255 = ((a % 256 : Nat) : Int) := by
  have h := Bits.bitAnd_mask (x := (a : Int)) 8 (Int.natCast_nonneg _)
  rw [show (2 : Int) ^ 8 - 1 = 255 by decide, show (2 : Int) ^ 8 = 256 by decide] at h
  rw [h]
  omega
theorem band1 (a : Nat) : Builtin.bitAnd (a : Int) 1 = ((a % 2 : Nat) : Int) := by
  have h := Bits.bitAnd_mask (x := (a : Int)) 1 (Int.natCast_nonneg _)
  rw [show (2 : Int) ^ 1 - 1 = 1 by decide, show (2 : Int) ^ 1 = 2 by decide] at h
  rw [h]
  omega
theorem shr (a n : Nat) : (a : Int) / 2 ^ ((n : Int)).toNat = ((a / 2 ^ n : Nat) : Int) := by
  rw [Int.toNat_natCast, Int.natCast_ediv, Int.natCast_pow]
  rfl
theorem IsP.feeds {k : Int} {p : Poly} (h : IsP k p) : atI [V.int 2197175160, V.int 14514072000185962306] k = some (.int (p.fall : Nat)) := by
  rcases h with ⟨rfl, rfl⟩ | ⟨rfl, rfl⟩ <;> rfl
theorem IsP.alls {k : Int} {p : Poly} (h : IsP k p) : atI [V.int 4294967295, V.int 18446744073709551615] k = some (.int (p.ones : Nat)) := by
  rcases h with ⟨rfl, rfl⟩ | ⟨rfl, rfl⟩ <;> rfl
theorem IsP.highs {k : Int} {p : Poly} (h : IsP k p) : atI [V.int 2147483648, V.int 9223372036854775808] k = some (.int (e0 p : Nat)) := by
  rcases h with ⟨rfl, rfl⟩ | ⟨rfl, rfl⟩ <;> rfl
theorem IsP.widths {k : Int} {p : Poly} (h : IsP k p) : atI [V.int 32, V.int 64] k = some (.int (p.bits : Nat)) := by
  rcases h with ⟨rfl, rfl⟩ | ⟨rfl, rfl⟩ <;> rfl
theorem kd_size {k : Int} {kd : SKind} (h : kindOf k = some kd) : atI [V.int 4, V.int 8, V.int 2, V.int 4] k = some (.int (kd.size : Nat)) := by
  rcases kd_cases h with ⟨p, ⟨rfl, rfl⟩ | ⟨rfl, rfl⟩, rfl⟩ | ⟨rfl, rfl⟩ | ⟨rfl, rfl⟩ <;> rfl
/-- an item of a list of bytes -/
theorem vints_get {b : Bytes} {i : Nat} {x : V} (h : ((bints b).map V.int)[i]? = some x) : ∃ c, b[i]? = some c ∧ x = .int (c.toNat : Nat) := by
  unfold bints at h
  rw [List.getElem?_map, List.getElem?_map] at h
  cases e : b[i]? with
  | none =>
    rw [e] at h
    cases h
  | some c =>
    rw [e] at h
    exact ⟨c, rfl, (Option.some.inj h).symm⟩
theorem vints_len (b : Bytes) : ((bints b).map V.int).length = b.length := by
  rw [List.length_map, ints_len]
theorem vints_at {b : Bytes} {i : Nat} {c : UInt8} (h : b[i]? = some c) : atI ((bints b).map V.int) (i : Int) = some (.int (c.toNat : Nat)) := by
  refine atI_nat ?_
  rw [List.getElem?_map, ints_get h]
  rfl
theorem same_new {H : Hp} {p : Addr} {o : HO} (h : H p = none) : Same H (upd H p o) := fun b x e => by
  rw [upd_ne (ne_of_none e h)]
  exact e
/-- a change at an object that H does not know -/
theorem Same.mut {H H' : Hp} {p : Addr} {o : HO} (e : Same H H') (h : H p = none) : Same H (upd H' p o) := fun a u ha => by
  rw [upd_ne (ne_of_none ha h)]
  exact e a u ha
theorem sz {n : Nat} (h : n ≤ 1000000) : n ≤ sizeLine := Nat.le_trans h (by decide)
theorem szl {n : Nat} (h : n < 1000000) : n < sizeLine := Nat.lt_of_lt_of_le h (by decide)
/-- the answer, by its case -/
theorem fin {H : Hp} {a : Addr} {xs : List V} {c : Sf81.Call} {A : Sf81.Ans} (e : Sf81.does c = A) (h : H a = some (.lst xs)) (hx : xs = (Sf81Neutral.listOf A).map V.int) : H a = some (.lst ((Sf81Neutral.listOf (Sf81.does c)).map V.int)) := by
  rw [e, ← hx]
  exact h
/-! ### the request -/
theorem nat_of {z hi : Int} (h : PySem.W.Codec.inInt 0 hi z = true) : ((z.toNat : Nat) : Int) = z := by
  have h' : (decide (0 ≤ z) && decide (z ≤ hi)) = true := h
  rw [Bool.and_eq_true, decide_eq_true_eq, decide_eq_true_eq] at h'
  omega
theorem bints_of : ∀ {l : List Int}, l.all (PySem.W.Codec.inInt 0 255) = true → bints (Sf81Neutral.bs l) = l
  | [], _ => rfl
  | z :: r, h => by
    rw [List.all_cons, Bool.and_eq_true] at h
    have h1 : (decide (0 ≤ z) && decide (z ≤ 255)) = true := h.1
    rw [Bool.and_eq_true, decide_eq_true_eq, decide_eq_true_eq] at h1
    show (((UInt8.ofNat z.toNat).toNat : Nat) : Int) :: bints (Sf81Neutral.bs r) = z :: r
    rw [bints_of h.2, UInt8.toNat_ofNat', Nat.mod_eq_of_lt (show z.toNat < 2 ^ 8 by omega)]
    congr 1
    omega
theorem bs_len (l : List Int) : (Sf81Neutral.bs l).length = l.length := List.length_map _
theorem len_of {α : Type} {l : List α} {lo hi : Nat} (h : PySem.W.Codec.inLen lo hi l = true) (h2 : hi ≤ 1000000) : l.length ≤ 1000000 := Nat.le_trans (PySem.W.Codec.inNat_iff.mp h).2 h2
theorem filled_ans (p : Poly) (s w : Nat) : [V.int (((Sf81.Kind.crc p).size : Nat) : Int)] ++ (bints (p.filled s w)).map V.int = (Sf81Neutral.listOf ⟨((p.bits / 8 : Nat) : Int), Sf81.nums (p.filled s w)⟩).map V.int := by
  show V.int ((p.bits / 8 : Nat) : Int) :: (bints (p.filled s w)).map V.int = V.int ((p.bits / 8 : Nat) : Int) :: ((Sf81.nums (p.filled s w)).map fun (n : Nat) => (n : Int)).map V.int
  congr 1
  congr 1
  unfold bints Sf81.nums
  rw [List.map_map]
  rfl
def rLenK (K : PySem.W.Frag) : List V → Hp → VK → Prop := fun xs H Q => ∃ p ys, xs = [.ref p] ∧ (SqL K H p ys ∨ SqT K H p ys) ∧ Q (.int ys.length) H
/-- a slice of bytes -/
theorem cut_is {b : Bytes} {i j : Nat} (hi : i ≤ b.length) (hj : j ≤ b.length) : cutV ((bints b).map V.int) (some (i : Int)) (some (j : Int)) = (bints ((b.drop i).take (j - i))).map V.int := by
  unfold cutV
  rw [HT.sIx_nat, HT.sIx_nat, vints_len, Nat.min_eq_left hi, Nat.min_eq_left hj, ← List.map_drop, ← List.map_take, ints_drop, ints_take]
theorem cut_head {b : Bytes} {j : Nat} (hj : j ≤ b.length) : cutV ((bints b).map V.int) none (some (j : Int)) = (bints (b.take j)).map V.int := by
  unfold cutV
  rw [HT.sIx_nat, HT.sIx_none, vints_len, Nat.min_eq_left hj, List.drop_zero, Nat.sub_zero, ← List.map_take, ints_take]
theorem cut_tail {b : Bytes} {i : Nat} (hi : i ≤ b.length) : cutV ((bints b).map V.int) (some (i : Int)) none = (bints (b.drop i)).map V.int := by
  unfold cutV
  rw [HT.sIx_nat, HT.sIx_none, vints_len, Nat.min_eq_left hi, ← List.map_drop, ints_drop, ← List.map_take, List.take_of_length_le (by rw [ints_len, List.length_drop]; exact Nat.le_refl _)]
theorem list_ans (n : Nat) (l : List Nat) : (V.int (n : Int)) :: (l.map fun (n : Nat) => (n : Int)).map V.int = (Sf81Neutral.listOf ⟨(n : Int), l⟩).map V.int := rfl
theorem nums_ints (b : Bytes) : (Sf81.nums b).map (fun (n : Nat) => (n : Int)) = bints b := by
  unfold bints Sf81.nums
  rw [List.map_map]
  rfl
theorem vnil_app (xs ys : List V) : (xs ++ ys) = xs ++ ys := rfl
theorem vints_app (a b : Bytes) : (bints a).map V.int ++ (bints b).map V.int = (bints (a ++ b)).map V.int := by
  rw [ints_app, List.map_append]
/-- the same lists of ints, by == -/
def pints (l : List Int) : List PyData := l.map PyData.int
theorem pints_eqv : ∀ (l m : List Int), PyData.eqvAll (pints l) (pints m) = decide (l = m)
  | [], [] => rfl
  | [], _ :: _ => rfl
  | _ :: _, [] => rfl
  | x :: l, y :: m => by
    show ((x == y) && PyData.eqvAll (pints l) (pints m)) = _
    rw [pints_eqv l m]
    by_cases h : x = y
    · subst h
      by_cases h2 : l = m
      · subst h2
        simp
      · simp [h2]
    · simp [h]
theorem pints_lay : ∀ l : List Int, PyData.canLayAll0 (pints l) = true
  | [] => rfl
  | _ :: l => pints_lay l
theorem pints_depth : ∀ l : List Int, PyData.depthAll (pints l) = 0
  | [] => rfl
  | _ :: l => by
    show max 0 (PyData.depthAll (pints l)) = 0
    rw [pints_depth l]
    rfl
theorem pints_shaped (l : List Int) : SeqAt.shaped (.list (pints l)) = true := by
  show (PyData.canLayAll0 (pints l) && decide (PyData.depthAll (pints l) + 1 ≤ 64)) = true
  rw [pints_lay, pints_depth]
  rfl
theorem pints_dp {H : Hp} : ∀ l : List Int, DpAll K H (l.map V.int) (pints l)
  | [] => .nil
  | n :: r => .cons (.int n) (pints_dp r)
theorem kd_size_le {k : Int} {kd : SKind} (h : kindOf k = some kd) : 2 ≤ kd.size ∧ kd.size ≤ 8 := by
  rcases kd_cases h with ⟨p, ⟨rfl, rfl⟩ | ⟨rfl, rfl⟩, rfl⟩ | ⟨rfl, rfl⟩ | ⟨rfl, rfl⟩ <;> decide
theorem zeros_is0 : ∀ n : Nat, (List.replicate n [V.int 0]).flatten = (bints (Sf81.be n 0)).map V.int
  | 0 => rfl
  | n + 1 => by
    rw [be_zero, List.replicate_succ, List.replicate_succ, List.flatten_cons, zeros_is0 n, be_zero]
    rfl
theorem over_is (b : Bytes) (t : Nat) (x : Bytes) : ((bints (b.take t)).map V.int ++ (bints x).map V.int) ++ (bints (b.drop (t + x.length))).map V.int = (bints (Sf81.over b t x)).map V.int := by
  rw [vints_app, vints_app, List.append_assoc]
  rfl
theorem over_len {b : Bytes} {t : Nat} {x : Bytes} (h : t + x.length ≤ b.length) : (Sf81.over b t x).length = b.length := by
  unfold Sf81.over
  rw [List.length_append, List.length_append, List.length_take, List.length_drop]
  omega
/-- the texts of a list of texts -/
def TextsAt (K : PySem.W.Frag) (H : Hp) (xs : List V) (l : List Bytes) : Prop := xs.length = l.length ∧ ∀ (i : Nat) (b : Bytes), l[i]? = some b → ∃ p : Addr, xs[i]? = some (V.ref p) ∧ SqL K H p ((bints b).map V.int)
theorem TextsAt.mono {H H' : Hp} {xs : List V} {l : List Bytes} (t : TextsAt K H xs l) (e : Same H H') : TextsAt K H' xs l := ⟨t.1, fun i b h => by
  obtain ⟨p, h1, h2⟩ := t.2 i b h
  exact ⟨p, h1, e.seq h2⟩⟩
theorem TextsAt.at_ {H : Hp} {xs : List V} {l : List Bytes} {i : Nat} {y : V} (t : TextsAt K H xs l) (h : xs[i]? = some y) : ∃ (p : Addr) (b : Bytes), y = V.ref p ∧ l[i]? = some b ∧ SqL K H p ((bints b).map V.int) := by
  have hi : i < l.length := by
    rw [← t.1]
    exact (List.getElem?_eq_some_iff.mp h).1
  obtain ⟨p, h1, h2⟩ := t.2 i _ (List.getElem?_eq_getElem hi)
  rw [h] at h1
  exact ⟨p, _, Option.some.inj h1, List.getElem?_eq_getElem hi, h2⟩
theorem texts_dw {H : Hp} : ∀ (L : List (List Int)) (xs : List V), DwAll K H xs (L.map fun r => PySem.W.WData.list (r.map PySem.W.WData.int)) → (∀ r ∈ L, r.all (PySem.W.Codec.inInt 0 255) = true) → TextsAt K H xs (L.map Sf81Neutral.bs)
  | [], xs, h, _ => by
    cases h
    exact ⟨rfl, fun i b e => by simp at e⟩
  | r :: L, xs, h, hr => by
    cases h with
    | cons h1 h2 =>
      cases h1 with
      | lst hs ha =>
        have e := ints_dw r _ ha
        subst e
        have t := texts_dw L _ h2 fun r' m => hr r' (List.mem_cons_of_mem _ m)
        refine ⟨?_, fun i b e => ?_⟩
        · exact congrArg (· + 1) t.1
        · cases i with
          | zero =>
            have e2 : Sf81Neutral.bs r = b := Option.some.inj e
            subst e2
            exact ⟨_, rfl, by rw [bints_of (hr r (List.mem_cons_self ..))]; exact hs⟩
          | succ i => exact t.2 i b e
def lens (l : List Bytes) : List Int := l.map fun b => (b.length : Int)
theorem lens_sum : ∀ l : List Bytes, (lens l).sum = (((l.map List.length).sum : Nat) : Int)
  | [] => rfl
  | b :: l => by
    show (((b.length : Nat) : Int) :: lens l).sum = _
    rw [List.sum_cons, lens_sum l, List.map_cons, List.sum_cons, Int.natCast_add]
theorem bits_over (n : Nat) : n < 2 ^ Builtin.Int.intBits (n : Int) := by
  unfold Builtin.Int.intBits
  by_cases h : n = 0
  · subst h
    decide
  · rw [if_neg (by simpa using h)]
    exact Nat.lt_log2_self
theorem hu64 {A : Around} {k : Nat} (hr : Room k A) : A.units + 64 < cLine := by
  have := hr.un
  omega
end
end DS
namespace DS
open PySem PySem.Spec PyProof.Rows L2
open PySem.W (Codec WData)
open Sf81 (Poly Bytes CRC32 CRC64 kindOf)
section
variable {P : Program} {w : World} {K : PySem.W.Frag} {mg : Str → Option Value} {base : Heap}
/-! ### one_bit_on -/
abbrev s_one_bit_on : Stmt := top 3
abbrev N_one_bit_on : List Str := ["k", "x"]
theorem sc_one_bit_on : FnScope N_one_bit_on ["k", "x"] (defScope s_one_bit_on) := ⟨rfl, rfl, rfl, by decide +kernel, rfl, by decide +kernel, by decide +kernel⟩
def sp_one_bit_on : Sp := fun vs H Q _ => ∃ (k : Int) (p : Poly) (x : Nat), vs = [.int k, .int (x : Nat)] ∧ IsP k p ∧ x < 2 ^ p.bits ∧ Q (.int (g1 p x : Nat)) H
theorem ok_one_bit_on (F : Df K mg "one_bit_on" s_one_bit_on ["k", "x"]) (m_FEEDS : Tup K mg "FEEDS" [.int 2197175160, .int 14514072000185962306]) : Cal P w K mg base "one_bit_on" 1 ["k", "x"] sp_one_bit_on := by
  obtain ⟨f, fd, F, mF, bF⟩ := F
  obtain ⟨a_FEEDS, m_FEEDS, T_FEEDS⟩ := m_FEEDS
  refine ⟨f, fd, F.ok sc_one_bit_on (fun vs H Q E h => ?_) (fun cdv A outer s H vs Q E hr h => ?_), mF, F.kp, bF, fun_lk F⟩
  · obtain ⟨_, _, _,  rfl, _⟩ := h
    rfl
  · obtain ⟨k, p, x, rfl, hp, hx, q⟩ := h
    refine ⟨_, (pss_cons (ps_if (pt_cmp (pc_eqI (pe_op op_mod (pv 1) pe_int) pe_int)) (pss_one (ps_ret (pe_op op_xor (pe_op op_fdiv (pv 1) pe_int) (pe_ix ix_tup (pe_glob (v := .ref a_FEEDS) (by rfl) m_FEEDS rfl) (pv 0) (fun _ _ => rfl))))) pss_nil)
      (pss_one (ps_ret (pe_op op_fdiv (pv 1) pe_int)))), ?_⟩
    refine ⟨_, rfl, _, _, rfl, rfl, (by show (0 : Int) < 2; decide), _, _, rfl, rfl, _, rfl, ite2 (fun e => ?_) (fun e => ?_)⟩
    · refine ⟨_, rfl, _, _, rfl, rfl, ⟨by decide, by decide⟩, _, rfl, _, _, _, _, rfl, rfl, T_FEEDS _, hp.feeds, _, _, rfl, rfl, ?_⟩
      have e := of_decide_eq_true e
      refine qi q ?_
      rw [show (x : Int) / 2 = ((x / 2 : Nat) : Int) by omega, bx]
      unfold g1
      rw [if_pos (by omega)]
    · refine ⟨_, rfl, _, _, rfl, rfl, ⟨by decide, by decide⟩, ?_⟩
      have e : ¬ (x : Int) % 2 = 1 := fun h => e (decide_eq_true h)
      refine qi q ?_
      unfold g1
      rw [if_neg (by omega)]
      omega
/-! ### bits_on -/
abbrev s_bits_on : Stmt := top 4
abbrev N_bits_on : List Str := ["k", "x", "many", "turn"]
theorem sc_bits_on : FnScope N_bits_on ["k", "x", "many"] (defScope s_bits_on) := ⟨rfl, rfl, rfl, by decide +kernel, rfl, by decide +kernel, by decide +kernel⟩
def sp_bits_on : Sp := fun vs H Q _ => ∃ (k : Int) (p : Poly) (x n : Nat), vs = [.int k, .int (x : Nat), .int (n : Nat)] ∧ IsP k p ∧ x < 2 ^ p.bits ∧ n ≤ 1000000 ∧ Q (.int (p.on n x : Nat)) H
theorem ok_bits_on (F : Df K mg "bits_on" s_bits_on ["k", "x", "many"]) (C_one_bit_on : Cal P w K mg base "one_bit_on" 1 ["k", "x"] sp_one_bit_on) (z_range : mg "range" = none) : Cal P w K mg base "bits_on" 2 ["k", "x", "many"] sp_bits_on := by
  obtain ⟨f, fd, F, mF, bF⟩ := F
  obtain ⟨f_one_bit_on, fd_one_bit_on, G_one_bit_on, m_one_bit_on, k_one_bit_on, b_one_bit_on, _⟩ := C_one_bit_on
  refine ⟨f, fd, F.ok sc_bits_on (fun vs H Q E h => ?_) (fun cdv A outer s H vs Q E hr h => ?_), mF, F.kp, bF, fun_lk F⟩
  · obtain ⟨_, _, _, _,  rfl, _⟩ := h
    rfl
  · obtain ⟨k, p, x, n, rfl, hp, hx, hn, q⟩ := h
    have hr_one_bit_on : Room 1 _ := hr.mono (by decide)
    refine ⟨_, (pss_cons (ps_for PassesOwn.never rfl (pi_range1 (by rfl) z_range (pa_cons (pv 2) pa_nil)) (pg_name (i := 3) sc_bits_on.nd rfl (Or.inl rfl)) (pss_one (ps_set (i := 1) sc_bits_on.nd rfl (Or.inl rfl) (pe_call G_one_bit_on hr_one_bit_on (by rfl) m_one_bit_on k_one_bit_on b_one_bit_on .nil pass0 (pa_cons (pv 0) (pa_cons (pv 1) pa_nil))))))
      (pss_one (ps_ret (pv 1)))), ?_⟩
    refine ⟨_, rfl, _, rfl, (by omega), (by omega), for_range (lo := 0) (n := n) (fun i σ H' => H' = H ∧ ∃ v, σ = [some (.int k), some (.int (p.on i x : Nat)), some (.int (n : Nat)), v]) ⟨rfl, none, rfl⟩ ?_ ?_⟩
    · rintro i σ H' hi ⟨rfl, v, rfl⟩
      refine ⟨_, rfl, _, rfl, k, p, p.on i x, rfl, hp, on_lt hp.good i hx, ?_⟩
      refine ⟨rfl, some (.int (0 + (i : Nat))), ?_⟩
      rw [on_succ']
      rfl
    · rintro σ H' ⟨rfl, v, rfl⟩
      exact ⟨_, rfl, q⟩
/-! ### byte_by -/
abbrev s_byte_by : Stmt := top 5
abbrev N_byte_by : List Str := ["k", "x", "octet"]
theorem sc_byte_by : FnScope N_byte_by ["k", "x", "octet"] (defScope s_byte_by) := ⟨rfl, rfl, rfl, by decide +kernel, rfl, by decide +kernel, by decide +kernel⟩
def sp_byte_by : Sp := fun vs H Q _ => ∃ (k : Int) (p : Poly) (x c : Nat), vs = [.int k, .int (x : Nat), .int (c : Nat)] ∧ IsP k p ∧ x < 2 ^ p.bits ∧ c < 256 ∧ Q (.int (p.on 8 (x ^^^ c) : Nat)) H
theorem ok_byte_by (F : Df K mg "byte_by" s_byte_by ["k", "x", "octet"]) (C_bits_on : Cal P w K mg base "bits_on" 2 ["k", "x", "many"] sp_bits_on) : Cal P w K mg base "byte_by" 3 ["k", "x", "octet"] sp_byte_by := by
  obtain ⟨f, fd, F, mF, bF⟩ := F
  obtain ⟨f_bits_on, fd_bits_on, G_bits_on, m_bits_on, k_bits_on, b_bits_on, _⟩ := C_bits_on
  refine ⟨f, fd, F.ok sc_byte_by (fun vs H Q E h => ?_) (fun cdv A outer s H vs Q E hr h => ?_), mF, F.kp, bF, fun_lk F⟩
  · obtain ⟨_, _, _, _,  rfl, _⟩ := h
    rfl
  · obtain ⟨k, p, x, c, rfl, hp, hx, hc, q⟩ := h
    have hr_bits_on : Room 2 _ := hr.mono (by decide)
    refine ⟨_, (pss_one (ps_ret (pe_call G_bits_on hr_bits_on (by rfl) m_bits_on k_bits_on b_bits_on .nil pass0 (pa_cons (pv 0) (pa_cons (pe_op op_xor (pv 1) (pv 2)) (pa_cons pe_int pa_nil)))))), ?_⟩
    exact ⟨_, rfl, _, rfl, _, rfl, _, _, rfl, rfl, k, p, x ^^^ c, 8, (by rw [← bx]; rfl), hp, xor_byte_lt hp.good hx hc, by decide, q⟩
/-! ### bytes_by -/
abbrev s_bytes_by : Stmt := top 6
abbrev N_bytes_by : List Str := ["k", "x", "text", "octet"]
theorem sc_bytes_by : FnScope N_bytes_by ["k", "x", "text"] (defScope s_bytes_by) := ⟨rfl, rfl, rfl, by decide +kernel, rfl, by decide +kernel, by decide +kernel⟩
def sp_bytes_by (K : PySem.W.Frag) : Sp := fun vs H Q _ => ∃ (k : Int) (p : Poly) (x : Nat) (a : Addr) (b : Bytes), vs = [.int k, .int (x : Nat), .ref a] ∧ IsP k p ∧ x < 2 ^ p.bits ∧ SqL K H a ((bints b).map V.int) ∧ b.length ≤ 1000000 ∧ Q (.int (p.raw x b : Nat)) H
theorem ok_bytes_by (F : Df K mg "bytes_by" s_bytes_by ["k", "x", "text"]) (C_byte_by : Cal P w K mg base "byte_by" 3 ["k", "x", "octet"] sp_byte_by) : Cal P w K mg base "bytes_by" 4 ["k", "x", "text"] (sp_bytes_by K) := by
  obtain ⟨f, fd, F, mF, bF⟩ := F
  obtain ⟨f_byte_by, fd_byte_by, G_byte_by, m_byte_by, k_byte_by, b_byte_by, _⟩ := C_byte_by
  refine ⟨f, fd, F.ok sc_bytes_by (fun vs H Q E h => ?_) (fun cdv A outer s H vs Q E hr h => ?_), mF, F.kp, bF, fun_lk F⟩
  · obtain ⟨_, _, _, _, _,  rfl, _⟩ := h
    rfl
  · obtain ⟨k, p, x, a, b, rfl, hp, hx, hS, hb, q⟩ := h
    have hr_byte_by : Room 3 _ := hr.mono (by decide)
    refine ⟨_, (pss_cons (ps_for PassesOwn.never rfl (pi_list (pv 2)) (pg_name (i := 3) sc_bytes_by.nd rfl (Or.inl rfl)) (pss_one (ps_set (i := 1) sc_bytes_by.nd rfl (Or.inl rfl) (pe_call G_byte_by hr_byte_by (by rfl) m_byte_by k_byte_by b_byte_by .nil pass0 (pa_cons (pv 0) (pa_cons (pv 1) (pa_cons (pv 3) pa_nil)))))))
      (pss_one (ps_ret (pv 1)))), ?_⟩
    refine ⟨_, rfl, a, rfl, ⟨_, hS⟩, for_list (K := K) (a := a) (xs := (bints b).map V.int) (fun i σ H' => H' = H ∧ ∃ v, σ = [some (.int k), some (.int (p.raw x (b.take i) : Nat)), some (.ref a), v]) ⟨rfl, none, rfl⟩ (fun i σ H' _ h => by rw [h.1]; exact hS) ?_ ?_⟩
    · rintro i y σ H' hi ⟨rfl, v, rfl⟩
      obtain ⟨c, hc, rfl⟩ := vints_get hi
      refine ⟨_, rfl, _, rfl, _, rfl, k, p, p.raw x (b.take i), c.toNat, rfl, hp, raw_lt hp.good _ hx, byte_lt c, ?_⟩
      refine ⟨rfl, some (.int (c.toNat : Nat)), ?_⟩
      rw [take_more hc, raw_snoc]
      rfl
    · rintro σ H' ⟨rfl, v, rfl⟩
      rw [vints_len, List.take_length]
      exact ⟨_, rfl, q⟩
/-! ### turned -/
abbrev s_turned : Stmt := top 7
abbrev N_turned : List Str := ["k", "x"]
theorem sc_turned : FnScope N_turned ["k", "x"] (defScope s_turned) := ⟨rfl, rfl, rfl, by decide +kernel, rfl, by decide +kernel, by decide +kernel⟩
def sp_turned : Sp := fun vs H Q _ => ∃ (k : Int) (p : Poly) (x : Nat), vs = [.int k, .int (x : Nat)] ∧ IsP k p ∧ x < 2 ^ p.bits ∧ Q (.int (x ^^^ p.ones : Nat)) H
theorem ok_turned (F : Df K mg "turned" s_turned ["k", "x"]) (m_ALL_ONES : Tup K mg "ALL_ONES" [.int 4294967295, .int 18446744073709551615]) : Cal P w K mg base "turned" 1 ["k", "x"] sp_turned := by
  obtain ⟨f, fd, F, mF, bF⟩ := F
  obtain ⟨a_ALL_ONES, m_ALL_ONES, T_ALL_ONES⟩ := m_ALL_ONES
  refine ⟨f, fd, F.ok sc_turned (fun vs H Q E h => ?_) (fun cdv A outer s H vs Q E hr h => ?_), mF, F.kp, bF, fun_lk F⟩
  · obtain ⟨_, _, _,  rfl, _⟩ := h
    rfl
  · obtain ⟨k, p, x, rfl, hp, hx, q⟩ := h
    refine ⟨_, (pss_one (ps_ret (pe_op op_xor (pv 1) (pe_ix ix_tup (pe_glob (v := .ref a_ALL_ONES) (by rfl) m_ALL_ONES rfl) (pv 0) (fun _ _ => rfl))))), ?_⟩
    exact ⟨_, rfl, _, rfl, _, _, _, _, rfl, rfl, T_ALL_ONES _, hp.alls, _, _, rfl, rfl, qi q (bx _ _)⟩
/-! ### bits_added -/
abbrev s_bits_added : Stmt := top 8
abbrev N_bits_added : List Str := ["k", "state", "text"]
theorem sc_bits_added : FnScope N_bits_added ["k", "state", "text"] (defScope s_bits_added) := ⟨rfl, rfl, rfl, by decide +kernel, rfl, by decide +kernel, by decide +kernel⟩
def sp_bits_added (K : PySem.W.Frag) : Sp := fun vs H Q _ => ∃ (k : Int) (p : Poly) (s : Nat) (a : Addr) (b : Bytes), vs = [.int k, .int (s : Nat), .ref a] ∧ IsP k p ∧ s < 2 ^ p.bits ∧ SqL K H a ((bints b).map V.int) ∧ b.length ≤ 1000000 ∧ Q (.int ((Sf81.Kind.crc p).add s b : Nat)) H
theorem ok_bits_added (F : Df K mg "bits_added" s_bits_added ["k", "state", "text"]) (C_turned : Cal P w K mg base "turned" 1 ["k", "x"] sp_turned) (C_bytes_by : Cal P w K mg base "bytes_by" 4 ["k", "x", "text"] (sp_bytes_by K)) : Cal P w K mg base "bits_added" 5 ["k", "state", "text"] (sp_bits_added K) := by
  obtain ⟨f, fd, F, mF, bF⟩ := F
  obtain ⟨f_turned, fd_turned, G_turned, m_turned, k_turned, b_turned, _⟩ := C_turned
  obtain ⟨f_bytes_by, fd_bytes_by, G_bytes_by, m_bytes_by, k_bytes_by, b_bytes_by, _⟩ := C_bytes_by
  refine ⟨f, fd, F.ok sc_bits_added (fun vs H Q E h => ?_) (fun cdv A outer s H vs Q E hr h => ?_), mF, F.kp, bF, fun_lk F⟩
  · obtain ⟨_, _, _, _, _,  rfl, _⟩ := h
    rfl
  · obtain ⟨k, p, s, a, b, rfl, hp, hs, hS, hb, q⟩ := h
    have hr_turned : Room 1 _ := hr.mono (by decide)
    have hr_bytes_by : Room 4 _ := hr.mono (by decide)
    refine ⟨_, (pss_one (ps_ret (pe_call G_turned hr_turned (by rfl) m_turned k_turned b_turned .nil pass0 (pa_cons (pv 0) (pa_cons (pe_call G_bytes_by hr_bytes_by (by rfl) m_bytes_by k_bytes_by b_bytes_by .nil pass0 (pa_cons (pv 0) (pa_cons (pe_call G_turned hr_turned (by rfl) m_turned k_turned b_turned .nil pass0 (pa_cons (pv 0) (pa_cons (pv 1) pa_nil))) (pa_cons (pv 2) pa_nil)))) pa_nil))))), ?_⟩
    exact ⟨_, rfl, _, rfl, _, rfl, _, rfl, k, p, s, rfl, hp, hs, _, rfl, k, p, s ^^^ p.ones, a, b, rfl, hp, turn_lt hs, hS, hb, k, p, p.raw (s ^^^ p.ones) b, rfl, hp, raw_lt hp.good b (turn_lt hs), q⟩
/-! ### low_of -/
abbrev s_low_of : Stmt := top 12
abbrev N_low_of : List Str := ["state"]
theorem sc_low_of : FnScope N_low_of ["state"] (defScope s_low_of) := ⟨rfl, rfl, rfl, by decide +kernel, rfl, by decide +kernel, by decide +kernel⟩
def sp_low_of : Sp := fun vs H Q _ => ∃ (s : Nat), vs = [.int (s : Nat)] ∧ Q (.int (s % 65536 : Nat)) H
theorem ok_low_of (F : Df K mg "low_of" s_low_of ["state"]) (n_SHIFT : Num mg "SHIFT" (65536)) : Cal P w K mg base "low_of" 1 ["state"] sp_low_of := by
  obtain ⟨f, fd, F, mF, bF⟩ := F
  obtain ⟨t_SHIFT, n_SHIFT⟩ := n_SHIFT
  refine ⟨f, fd, F.ok sc_low_of (fun vs H Q E h => ?_) (fun cdv A outer s H vs Q E hr h => ?_), mF, F.kp, bF, fun_lk F⟩
  · obtain ⟨_,  rfl, _⟩ := h
    rfl
  · obtain ⟨s, rfl, q⟩ := h
    refine ⟨_, (pss_one (ps_ret (pe_op op_mod (pv 0) (pe_glob (v := .int (65536)) (by rfl) n_SHIFT ⟨_, rfl⟩)))), ?_⟩
    exact ⟨_, rfl, _, _, rfl, rfl, (by show (0 : Int) < 65536; decide), qi q (by omega)⟩
/-! ### high_of -/
abbrev s_high_of : Stmt := top 13
abbrev N_high_of : List Str := ["state"]
theorem sc_high_of : FnScope N_high_of ["state"] (defScope s_high_of) := ⟨rfl, rfl, rfl, by decide +kernel, rfl, by decide +kernel, by decide +kernel⟩
def sp_high_of : Sp := fun vs H Q _ => ∃ (s : Nat), vs = [.int (s : Nat)] ∧ Q (.int (s / 65536 : Nat)) H
theorem ok_high_of (F : Df K mg "high_of" s_high_of ["state"]) (n_SHIFT : Num mg "SHIFT" (65536)) : Cal P w K mg base "high_of" 1 ["state"] sp_high_of := by
  obtain ⟨f, fd, F, mF, bF⟩ := F
  obtain ⟨t_SHIFT, n_SHIFT⟩ := n_SHIFT
  refine ⟨f, fd, F.ok sc_high_of (fun vs H Q E h => ?_) (fun cdv A outer s H vs Q E hr h => ?_), mF, F.kp, bF, fun_lk F⟩
  · obtain ⟨_,  rfl, _⟩ := h
    rfl
  · obtain ⟨s, rfl, q⟩ := h
    refine ⟨_, (pss_one (ps_ret (pe_op op_fdiv (pv 0) (pe_glob (v := .int (65536)) (by rfl) n_SHIFT ⟨_, rfl⟩)))), ?_⟩
    exact ⟨_, rfl, _, _, rfl, rfl, ⟨by decide, by decide⟩, qi q (by omega)⟩
/-! ### adler_state -/
abbrev s_adler_state : Stmt := top 14
abbrev N_adler_state : List Str := ["low", "high"]
theorem sc_adler_state : FnScope N_adler_state ["low", "high"] (defScope s_adler_state) := ⟨rfl, rfl, rfl, by decide +kernel, rfl, by decide +kernel, by decide +kernel⟩
def sp_adler_state : Sp := fun vs H Q _ => ∃ (l h : Int), vs = [.int l, .int h] ∧ Q (.int (65536 * (h % 65521) + l % 65521)) H
theorem ok_adler_state (F : Df K mg "adler_state" s_adler_state ["low", "high"]) (n_SHIFT : Num mg "SHIFT" (65536)) (n_MODULUS : Num mg "MODULUS" (65521)) : Cal P w K mg base "adler_state" 1 ["low", "high"] sp_adler_state := by
  obtain ⟨f, fd, F, mF, bF⟩ := F
  obtain ⟨t_SHIFT, n_SHIFT⟩ := n_SHIFT
  obtain ⟨t_MODULUS, n_MODULUS⟩ := n_MODULUS
  refine ⟨f, fd, F.ok sc_adler_state (fun vs H Q E h => ?_) (fun cdv A outer s H vs Q E hr h => ?_), mF, F.kp, bF, fun_lk F⟩
  · obtain ⟨_, _,  rfl, _⟩ := h
    rfl
  · obtain ⟨l, g, rfl, q⟩ := h
    refine ⟨_, (pss_one (ps_ret (pe_op op_add (pe_op op_mul (pe_glob (v := .int (65536)) (by rfl) n_SHIFT ⟨_, rfl⟩) (pe_op op_mod (pv 1) (pe_glob (v := .int (65521)) (by rfl) n_MODULUS ⟨_, rfl⟩))) (pe_op op_mod (pv 0) (pe_glob (v := .int (65521)) (by rfl) n_MODULUS ⟨_, rfl⟩))))), ?_⟩
    exact ⟨_, rfl, _, _, rfl, rfl, (by show (0 : Int) < 65521; decide), _, _, rfl, rfl, .inl ⟨by decide, by decide⟩, _, rfl, _, _, rfl, rfl, (by show (0 : Int) < 65521; decide), _, _, rfl, rfl, q⟩
/-! ### adler_added -/
abbrev s_adler_added : Stmt := top 15
abbrev N_adler_added : List Str := ["state", "text", "low", "high", "octet"]
theorem sc_adler_added : FnScope N_adler_added ["state", "text"] (defScope s_adler_added) := ⟨rfl, rfl, rfl, by decide +kernel, rfl, by decide +kernel, by decide +kernel⟩
def sp_adler_added (K : PySem.W.Frag) : Sp := fun vs H Q _ => ∃ (s : Nat) (a : Addr) (b : Bytes), vs = [.int (s : Nat), .ref a] ∧ Sf81.Kind.adler.ok s = true ∧ SqL K H a ((bints b).map V.int) ∧ b.length ≤ 1000000 ∧ Q (.int (Sf81.Kind.adler.add s b : Nat)) H
theorem ok_adler_added (F : Df K mg "adler_added" s_adler_added ["state", "text"]) (C_low_of : Cal P w K mg base "low_of" 1 ["state"] sp_low_of) (C_high_of : Cal P w K mg base "high_of" 1 ["state"] sp_high_of) (C_adler_state : Cal P w K mg base "adler_state" 1 ["low", "high"] sp_adler_state) : Cal P w K mg base "adler_added" 2 ["state", "text"] (sp_adler_added K) := by
  obtain ⟨f, fd, F, mF, bF⟩ := F
  obtain ⟨f_low_of, fd_low_of, G_low_of, m_low_of, k_low_of, b_low_of, _⟩ := C_low_of
  obtain ⟨f_high_of, fd_high_of, G_high_of, m_high_of, k_high_of, b_high_of, _⟩ := C_high_of
  obtain ⟨f_adler_state, fd_adler_state, G_adler_state, m_adler_state, k_adler_state, b_adler_state, _⟩ := C_adler_state
  refine ⟨f, fd, F.ok sc_adler_added (fun vs H Q E h => ?_) (fun cdv A outer s H vs Q E hr h => ?_), mF, F.kp, bF, fun_lk F⟩
  · obtain ⟨_, _, _,  rfl, _⟩ := h
    rfl
  · obtain ⟨s, a, b, rfl, hs, hS, hb, q⟩ := h
    have hr_low_of : Room 1 _ := hr.mono (by decide)
    have hr_high_of : Room 1 _ := hr.mono (by decide)
    have hr_adler_state : Room 1 _ := hr.mono (by decide)
    refine ⟨_, (pss_cons (ps_set (i := 2) sc_adler_added.nd rfl (Or.inl rfl) (pe_call G_low_of hr_low_of (by rfl) m_low_of k_low_of b_low_of .nil pass0 (pa_cons (pv 0) pa_nil)))
      (pss_cons (ps_set (i := 3) sc_adler_added.nd rfl (Or.inl rfl) (pe_call G_high_of hr_high_of (by rfl) m_high_of k_high_of b_high_of .nil pass0 (pa_cons (pv 0) pa_nil)))
      (pss_cons (ps_for PassesOwn.never rfl (pi_list (pv 1)) (pg_name (i := 4) sc_adler_added.nd rfl (Or.inl rfl)) (pss_cons (ps_set (i := 2) sc_adler_added.nd rfl (Or.inl rfl) (pe_op op_add (pv 2) (pv 4)))
      (pss_one (ps_set (i := 3) sc_adler_added.nd rfl (Or.inl rfl) (pe_op op_add (pv 3) (pv 2))))))
      (pss_one (ps_ret (pe_call G_adler_state hr_adler_state (by rfl) m_adler_state k_adler_state b_adler_state .nil pass0 (pa_cons (pv 2) (pa_cons (pv 3) pa_nil)))))))), ?_⟩
    refine ⟨_, rfl, s, rfl, _, rfl, s, rfl, ?_⟩
    refine ⟨_, rfl, a, rfl, ⟨_, hS⟩, for_list (K := K) (a := a) (xs := (bints b).map V.int) (fun i σ H' => H' = H ∧ ∃ v, σ = [some (.int (s : Nat)), some (.ref a), some (.int ((adlerPy s (b.take i)).1 : Nat)), some (.int ((adlerPy s (b.take i)).2 : Nat)), v]) ⟨rfl, none, rfl⟩ (fun i σ H' _ h => by rw [h.1]; exact hS) ?_ ?_⟩
    · rintro i y σ H' hi ⟨rfl, v, rfl⟩
      obtain ⟨c, hc, rfl⟩ := vints_get hi
      refine ⟨_, rfl, _, rfl, _, _, rfl, rfl, _, rfl, _, rfl, _, _, rfl, rfl, rfl, some (.int (c.toNat : Nat)), ?_⟩
      rw [take_more hc, adlerPy_snoc]
      rfl
    · rintro σ H' ⟨rfl, v, rfl⟩
      rw [vints_len, List.take_length]
      refine ⟨_, rfl, _, rfl, _, _, rfl, qi q ?_⟩
      rw [adler_add hs]
      omega
/-! ### is_odd -/
abbrev s_is_odd : Stmt := top 19
abbrev N_is_odd : List Str := ["state"]
theorem sc_is_odd : FnScope N_is_odd ["state"] (defScope s_is_odd) := ⟨rfl, rfl, rfl, by decide +kernel, rfl, by decide +kernel, by decide +kernel⟩
def sp_is_odd : Sp := fun vs H Q _ => ∃ (s : Nat), vs = [.int (s : Nat)] ∧ Q (.int (s / 65536 : Nat)) H
theorem ok_is_odd (F : Df K mg "is_odd" s_is_odd ["state"]) (n_ODD : Num mg "ODD" (65536)) : Cal P w K mg base "is_odd" 1 ["state"] sp_is_odd := by
  obtain ⟨f, fd, F, mF, bF⟩ := F
  obtain ⟨t_ODD, n_ODD⟩ := n_ODD
  refine ⟨f, fd, F.ok sc_is_odd (fun vs H Q E h => ?_) (fun cdv A outer s H vs Q E hr h => ?_), mF, F.kp, bF, fun_lk F⟩
  · obtain ⟨_,  rfl, _⟩ := h
    rfl
  · obtain ⟨s, rfl, q⟩ := h
    refine ⟨_, (pss_one (ps_ret (pe_op op_fdiv (pv 0) (pe_glob (v := .int (65536)) (by rfl) n_ODD ⟨_, rfl⟩)))), ?_⟩
    exact ⟨_, rfl, _, _, rfl, rfl, ⟨by decide, by decide⟩, qi q (by omega)⟩
/-! ### short_of -/
abbrev s_short_of : Stmt := top 20
abbrev N_short_of : List Str := ["state"]
theorem sc_short_of : FnScope N_short_of ["state"] (defScope s_short_of) := ⟨rfl, rfl, rfl, by decide +kernel, rfl, by decide +kernel, by decide +kernel⟩
def sp_short_of : Sp := fun vs H Q _ => ∃ (s : Nat), vs = [.int (s : Nat)] ∧ Q (.int (s % 65536 : Nat)) H
theorem ok_short_of (F : Df K mg "short_of" s_short_of ["state"]) (n_ODD : Num mg "ODD" (65536)) : Cal P w K mg base "short_of" 1 ["state"] sp_short_of := by
  obtain ⟨f, fd, F, mF, bF⟩ := F
  obtain ⟨t_ODD, n_ODD⟩ := n_ODD
  refine ⟨f, fd, F.ok sc_short_of (fun vs H Q E h => ?_) (fun cdv A outer s H vs Q E hr h => ?_), mF, F.kp, bF, fun_lk F⟩
  · obtain ⟨_,  rfl, _⟩ := h
    rfl
  · obtain ⟨s, rfl, q⟩ := h
    refine ⟨_, (pss_one (ps_ret (pe_op op_mod (pv 0) (pe_glob (v := .int (65536)) (by rfl) n_ODD ⟨_, rfl⟩)))), ?_⟩
    exact ⟨_, rfl, _, _, rfl, rfl, (by show (0 : Int) < 65536; decide), qi q (by omega)⟩
/-! ### cut_above -/
abbrev s_cut_above : Stmt := top 22
abbrev N_cut_above : List Str := ["total"]
theorem sc_cut_above : FnScope N_cut_above ["total"] (defScope s_cut_above) := ⟨rfl, rfl, rfl, by decide +kernel, rfl, by decide +kernel, by decide +kernel⟩
def sp_cut_above : Sp := fun vs H Q _ => ∃ (t : Int), vs = [.int t] ∧ Q (.int ((t - 1) % 65535 + 1)) H
theorem ok_cut_above (F : Df K mg "cut_above" s_cut_above ["total"]) (n_MOST : Num mg "MOST" (65535)) : Cal P w K mg base "cut_above" 1 ["total"] sp_cut_above := by
  obtain ⟨f, fd, F, mF, bF⟩ := F
  obtain ⟨t_MOST, n_MOST⟩ := n_MOST
  refine ⟨f, fd, F.ok sc_cut_above (fun vs H Q E h => ?_) (fun cdv A outer s H vs Q E hr h => ?_), mF, F.kp, bF, fun_lk F⟩
  · obtain ⟨_,  rfl, _⟩ := h
    rfl
  · obtain ⟨t, rfl, q⟩ := h
    refine ⟨_, (pss_one (ps_ret (pe_op op_add (pe_op op_mod (pe_op op_sub (pv 0) pe_int) (pe_glob (v := .int (65535)) (by rfl) n_MOST ⟨_, rfl⟩)) pe_int))), ?_⟩
    exact ⟨_, rfl, _, _, rfl, rfl, _, _, rfl, rfl, (by show (0 : Int) < 65535; decide), _, _, rfl, rfl, q⟩
/-! ### cut_down -/
abbrev s_cut_down : Stmt := top 21
abbrev N_cut_down : List Str := ["total"]
theorem sc_cut_down : FnScope N_cut_down ["total"] (defScope s_cut_down) := ⟨rfl, rfl, rfl, by decide +kernel, rfl, by decide +kernel, by decide +kernel⟩
def sp_cut_down : Sp := fun vs H Q _ => ∃ (t : Int), vs = [.int t] ∧ Q (.int (if t = 0 then 0 else (t - 1) % 65535 + 1)) H
theorem ok_cut_down (F : Df K mg "cut_down" s_cut_down ["total"]) (C_cut_above : Cal P w K mg base "cut_above" 1 ["total"] sp_cut_above) : Cal P w K mg base "cut_down" 2 ["total"] sp_cut_down := by
  obtain ⟨f, fd, F, mF, bF⟩ := F
  obtain ⟨f_cut_above, fd_cut_above, G_cut_above, m_cut_above, k_cut_above, b_cut_above, _⟩ := C_cut_above
  refine ⟨f, fd, F.ok sc_cut_down (fun vs H Q E h => ?_) (fun cdv A outer s H vs Q E hr h => ?_), mF, F.kp, bF, fun_lk F⟩
  · obtain ⟨_,  rfl, _⟩ := h
    rfl
  · obtain ⟨t, rfl, q⟩ := h
    have hr_cut_above : Room 1 _ := hr.mono (by decide)
    refine ⟨_, (pss_cons (ps_if (pt_cmp (pc_eqI (pv 0) pe_int)) (pss_one (ps_ret pe_int)) pss_nil)
      (pss_one (ps_ret (pe_call G_cut_above hr_cut_above (by rfl) m_cut_above k_cut_above b_cut_above .nil pass0 (pa_cons (pv 0) pa_nil))))), ?_⟩
    refine ⟨_, rfl, _, _, rfl, rfl, _, rfl, ite2 (fun e => ?_) (fun e => ?_)⟩
    · exact qi q (if_pos (of_decide_eq_true e)).symm
    · exact ⟨_, rfl, _, rfl, qi q (if_neg (fun h => e (decide_eq_true h))).symm⟩
/-! ### total_of -/
abbrev s_total_of : Stmt := top 23
abbrev N_total_of : List Str := ["text", "odd", "total", "place", "octet"]
theorem sc_total_of : FnScope N_total_of ["text", "odd"] (defScope s_total_of) := ⟨rfl, rfl, rfl, by decide +kernel, rfl, by decide +kernel, by decide +kernel⟩
def sp_total_of (K : PySem.W.Frag) : Sp := fun vs H Q _ => ∃ (a : Addr) (b : Bytes) (o : Nat), vs = [.ref a, .int (o : Nat)] ∧ o < 2 ∧ SqL K H a ((bints b).map V.int) ∧ b.length ≤ 1000000 ∧ ∀ H', Same H H' → Q (.int (Sf81.wordsSum (o == 1) b : Nat)) H'
theorem ok_total_of (F : Df K mg "total_of" s_total_of ["text", "odd"]) (z_enumerate : mg "enumerate" = none) : Cal P w K mg base "total_of" 1 ["text", "odd"] (sp_total_of K) := by
  obtain ⟨f, fd, F, mF, bF⟩ := F
  refine ⟨f, fd, F.ok sc_total_of (fun vs H Q E h => ?_) (fun cdv A outer s H vs Q E hr h => ?_), mF, F.kp, bF, fun_lk F⟩
  · obtain ⟨_, _, _,  rfl, _⟩ := h
    rfl
  · obtain ⟨a, b, o, rfl, ho, hS, hb, q⟩ := h
    refine ⟨_, (pss_cons (ps_set (i := 2) sc_total_of.nd rfl (Or.inl rfl) pe_int)
      (pss_cons (ps_for PassesOwn.never rfl (pi_enum (by rfl) z_enumerate (pa_cons (pv 0) pa_nil)) (pg_tup rfl (pgs_cons (pg_name (i := 3) sc_total_of.nd rfl (Or.inl rfl)) (pgs_cons (pg_name (i := 4) sc_total_of.nd rfl (Or.inl rfl)) pgs_nil))) (pss_one (ps_if (pt_cmp (pc_eqI (pe_op op_mod (pe_op op_add (pv 3) (pv 1)) pe_int) pe_int)) (pss_one (ps_aug (i := 2) sc_total_of.nd rfl (Or.inl rfl) (pe_op op_mul pe_int (pv 4)) ip_add)) (pss_one (ps_aug (i := 2) sc_total_of.nd rfl (Or.inl rfl) (pv 4) ip_add)))))
      (pss_one (ps_ret (pv 2))))), ?_⟩
    refine ⟨_, rfl, a, _, rfl, hS, for_it (walk_enum (K := K) (a := a) (xs := (bints b).map V.int)) (fun i σ H' => Same H H' ∧ ∃ u v, σ = [some (.ref a), some (.int (o : Nat)), some (.int (Sf81.wordsSum (o == 1) (b.take i) : Nat)), u, v]) ⟨Same.refl _, none, none, rfl⟩ (fun i σ H' _ h => h.1.seq hS) ?_ ?_⟩
    · rintro i y σ H1 H2 hi ⟨h1, u, v, rfl⟩ ⟨T, x1, x2, rfl, nT, rfl, e1, e2⟩
      obtain rfl := Option.some.inj e1
      obtain ⟨c, hc, rfl⟩ := vints_get e2
      have el : (b.take i).length = i := by
        rw [vints_len] at hi
        rw [List.length_take]
        omega
      refine ⟨T, _, rfl, .inl (.inl upd_same), rfl, _, _, rfl, _, _, rfl, rfl, ?_⟩
      refine ⟨_, rfl, _, rfl, _, _, rfl, rfl, _, _, rfl, rfl, (by show (0 : Int) < 2; decide), _, _, rfl, rfl, _, rfl, ite2 (fun e => ?_) (fun e => ?_)⟩
      · have e := of_decide_eq_true e
        refine ⟨_, rfl, _, rfl, _, _, rfl, rfl, .inl ⟨by decide, by decide⟩, _, _, rfl, rfl, ?_⟩
        refine ⟨h1.trans (same_new nT), some (.int (i : Nat)), some (.int (c.toNat : Nat)), ?_⟩
        rw [take_more hc, wordsSum_snoc ho, el, if_pos (by omega)]
        rfl
      · have e : ¬ ((i : Int) + (o : Int)) % 2 = 0 := fun h => e (decide_eq_true h)
        refine ⟨_, rfl, _, rfl, _, _, rfl, rfl, ?_⟩
        refine ⟨h1.trans (same_new nT), some (.int (i : Nat)), some (.int (c.toNat : Nat)), ?_⟩
        rw [take_more hc, wordsSum_snoc ho, el, if_neg (by omega)]
        rfl
    · rintro σ H' ⟨h1, u, v, rfl⟩
      rw [vints_len, List.take_length]
      exact ⟨_, rfl, q _ h1⟩
/-! ### ones_state -/
abbrev s_ones_state : Stmt := top 24
abbrev N_ones_state : List Str := ["short", "odd"]
theorem sc_ones_state : FnScope N_ones_state ["short", "odd"] (defScope s_ones_state) := ⟨rfl, rfl, rfl, by decide +kernel, rfl, by decide +kernel, by decide +kernel⟩
def sp_ones_state : Sp := fun vs H Q _ => ∃ (s o : Int), vs = [.int s, .int o] ∧ Q (.int (s + 65536 * o)) H
theorem ok_ones_state (F : Df K mg "ones_state" s_ones_state ["short", "odd"]) (n_ODD : Num mg "ODD" (65536)) : Cal P w K mg base "ones_state" 1 ["short", "odd"] sp_ones_state := by
  obtain ⟨f, fd, F, mF, bF⟩ := F
  obtain ⟨t_ODD, n_ODD⟩ := n_ODD
  refine ⟨f, fd, F.ok sc_ones_state (fun vs H Q E h => ?_) (fun cdv A outer s H vs Q E hr h => ?_), mF, F.kp, bF, fun_lk F⟩
  · obtain ⟨_, _,  rfl, _⟩ := h
    rfl
  · obtain ⟨s, o, rfl, q⟩ := h
    refine ⟨_, (pss_one (ps_ret (pe_op op_add (pv 0) (pe_op op_mul (pe_glob (v := .int (65536)) (by rfl) n_ODD ⟨_, rfl⟩) (pv 1))))), ?_⟩
    exact ⟨_, rfl, _, rfl, _, _, rfl, rfl, .inl ⟨by decide, by decide⟩, _, _, rfl, rfl, q⟩
/-! ### ones_added -/
abbrev s_ones_added : Stmt := top 25
abbrev N_ones_added : List Str := ["state", "text", "total"]
theorem sc_ones_added : FnScope N_ones_added ["state", "text"] (defScope s_ones_added) := ⟨rfl, rfl, rfl, by decide +kernel, rfl, by decide +kernel, by decide +kernel⟩
def sp_ones_added (K : PySem.W.Frag) : Sp := fun vs H Q _ => ∃ (s : Nat) (a : Addr) (b : Bytes), vs = [.int (s : Nat), .ref a] ∧ Sf81.Kind.ones.ok s = true ∧ SqL K H a ((bints b).map V.int) ∧ b.length ≤ 1000000 ∧ ∀ H', Same H H' → Q (.int (Sf81.Kind.ones.add s b : Nat)) H'
theorem ok_ones_added (F : Df K mg "ones_added" s_ones_added ["state", "text"]) (C_short_of : Cal P w K mg base "short_of" 1 ["state"] sp_short_of) (C_total_of : Cal P w K mg base "total_of" 1 ["text", "odd"] (sp_total_of K)) (C_is_odd : Cal P w K mg base "is_odd" 1 ["state"] sp_is_odd) (C_ones_state : Cal P w K mg base "ones_state" 1 ["short", "odd"] sp_ones_state) (C_cut_down : Cal P w K mg base "cut_down" 2 ["total"] sp_cut_down) (z_len : mg "len" = none) : Cal P w K mg base "ones_added" 3 ["state", "text"] (sp_ones_added K) := by
  obtain ⟨f, fd, F, mF, bF⟩ := F
  obtain ⟨f_short_of, fd_short_of, G_short_of, m_short_of, k_short_of, b_short_of, _⟩ := C_short_of
  obtain ⟨f_total_of, fd_total_of, G_total_of, m_total_of, k_total_of, b_total_of, _⟩ := C_total_of
  obtain ⟨f_is_odd, fd_is_odd, G_is_odd, m_is_odd, k_is_odd, b_is_odd, _⟩ := C_is_odd
  obtain ⟨f_ones_state, fd_ones_state, G_ones_state, m_ones_state, k_ones_state, b_ones_state, _⟩ := C_ones_state
  obtain ⟨f_cut_down, fd_cut_down, G_cut_down, m_cut_down, k_cut_down, b_cut_down, _⟩ := C_cut_down
  refine ⟨f, fd, F.ok sc_ones_added (fun vs H Q E h => ?_) (fun cdv A outer s H vs Q E hr h => ?_), mF, F.kp, bF, fun_lk F⟩
  · obtain ⟨_, _, _,  rfl, _⟩ := h
    rfl
  · obtain ⟨s, a, b, rfl, hs, hS, hb, q⟩ := h
    have hr_short_of : Room 1 _ := hr.mono (by decide)
    have hr_total_of : Room 1 _ := hr.mono (by decide)
    have hr_is_odd : Room 1 _ := hr.mono (by decide)
    have hr_ones_state : Room 1 _ := hr.mono (by decide)
    have hr_cut_down : Room 2 _ := hr.mono (by decide)
    refine ⟨_, (pss_cons (ps_set (i := 2) sc_ones_added.nd rfl (Or.inl rfl) (pe_op op_add (pe_call G_short_of hr_short_of (by rfl) m_short_of k_short_of b_short_of .nil pass0 (pa_cons (pv 0) pa_nil)) (pe_call G_total_of hr_total_of (by rfl) m_total_of k_total_of b_total_of .nil pass0 (pa_cons (pv 1) (pa_cons (pe_call G_is_odd hr_is_odd (by rfl) m_is_odd k_is_odd b_is_odd .nil pass0 (pa_cons (pv 0) pa_nil)) pa_nil)))))
      (pss_one (ps_ret (pe_call G_ones_state hr_ones_state (by rfl) m_ones_state k_ones_state b_ones_state .nil pass0 (pa_cons (pe_call G_cut_down hr_cut_down (by rfl) m_cut_down k_cut_down b_cut_down .nil pass0 (pa_cons (pv 2) pa_nil)) (pa_cons (pe_op op_mod (pe_op op_add (pe_call G_is_odd hr_is_odd (by rfl) m_is_odd k_is_odd b_is_odd .nil pass0 (pa_cons (pv 0) pa_nil)) (pe_callB (r := rLenK K) call_len_seq (by rfl) z_len PySem.boot_len (pa_cons (pv 1) pa_nil))) pe_int) pa_nil)))))), ?_⟩
    have hs2 := ones_ok hs
    refine ⟨_, rfl, s, rfl, _, rfl, _, rfl, s, rfl, a, b, s / 65536, rfl, (by omega), hS, hb, fun H1 h1 => ?_⟩
    refine ⟨_, _, rfl, rfl, _, rfl, _, rfl, _, rfl, s, rfl, _, rfl, a, _, rfl, .inl (h1.seq hS), _, _, rfl, rfl, _, _, rfl, rfl, (by show (0 : Int) < 2; decide), _, _, rfl, qi (q H1 h1) ?_⟩
    rw [ones_add, vints_len]
    have f := folded_int (s % 65536 + Sf81.wordsSum (s / 65536 == 1) b)
    rw [Int.natCast_add] at f
    rw [← f]
    omega
/-! ### is_by_bits -/
abbrev s_is_by_bits : Stmt := top 32
abbrev N_is_by_bits : List Str := ["k"]
theorem sc_is_by_bits : FnScope N_is_by_bits ["k"] (defScope s_is_by_bits) := ⟨rfl, rfl, rfl, by decide +kernel, rfl, by decide +kernel, by decide +kernel⟩
def sp_is_by_bits : Sp := fun vs H Q _ => ∃ (k : Int), vs = [.int k] ∧ Q (.bl (decide (k = 0 ∨ k = 1))) H
theorem ok_is_by_bits (F : Df K mg "is_by_bits" s_is_by_bits ["k"]) (n_BITS_64 : Num mg "BITS_64" (1)) (n_BITS_32 : Num mg "BITS_32" (0)) : Cal P w K mg base "is_by_bits" 1 ["k"] sp_is_by_bits := by
  obtain ⟨f, fd, F, mF, bF⟩ := F
  obtain ⟨t_BITS_64, n_BITS_64⟩ := n_BITS_64
  obtain ⟨t_BITS_32, n_BITS_32⟩ := n_BITS_32
  refine ⟨f, fd, F.ok sc_is_by_bits (fun vs H Q E h => ?_) (fun cdv A outer s H vs Q E hr h => ?_), mF, F.kp, bF, fun_lk F⟩
  · obtain ⟨_,  rfl, _⟩ := h
    rfl
  · obtain ⟨k, rfl, q⟩ := h
    refine ⟨_, (pss_one (ps_ret (pe_or (pe_cmp (pc_eqI (pv 0) (pe_glob (v := .int (0)) (by rfl) n_BITS_32 ⟨_, rfl⟩))) (pe_one (pe_cmp (pc_eqI (pv 0) (pe_glob (v := .int (1)) (by rfl) n_BITS_64 ⟨_, rfl⟩))))))), ?_⟩
    refine ⟨_, rfl, _, _, rfl, rfl, _, rfl, ite2 (fun e => ?_) (fun e => ?_)⟩
    · refine qb q ?_
      exact (decide_eq_true (.inl (of_decide_eq_true e))).symm
    · refine ⟨_, rfl, _, _, rfl, rfl, ?_⟩
      refine qb q ?_
      have e : ¬ k = 0 := fun h => e (decide_eq_true h)
      show decide (k = 1) = decide (k = 0 ∨ k = 1)
      by_cases h : k = 1
      · rw [decide_eq_true h, decide_eq_true (.inr h)]
      · rw [decide_eq_false h, decide_eq_false (by omega)]
/-! ### is_kind -/
abbrev s_is_kind : Stmt := top 33
abbrev N_is_kind : List Str := ["k"]
theorem sc_is_kind : FnScope N_is_kind ["k"] (defScope s_is_kind) := ⟨rfl, rfl, rfl, by decide +kernel, rfl, by decide +kernel, by decide +kernel⟩
def sp_is_kind : Sp := fun vs H Q _ => ∃ (k : Int), vs = [.int k] ∧ Q (.bl (decide (0 ≤ k ∧ k ≤ 3))) H
theorem ok_is_kind (F : Df K mg "is_kind" s_is_kind ["k"]) (n_BITS_32 : Num mg "BITS_32" (0)) (n_ADLER : Num mg "ADLER" (3)) : Cal P w K mg base "is_kind" 1 ["k"] sp_is_kind := by
  obtain ⟨f, fd, F, mF, bF⟩ := F
  obtain ⟨t_BITS_32, n_BITS_32⟩ := n_BITS_32
  obtain ⟨t_ADLER, n_ADLER⟩ := n_ADLER
  refine ⟨f, fd, F.ok sc_is_kind (fun vs H Q E h => ?_) (fun cdv A outer s H vs Q E hr h => ?_), mF, F.kp, bF, fun_lk F⟩
  · obtain ⟨_,  rfl, _⟩ := h
    rfl
  · obtain ⟨k, rfl, q⟩ := h
    refine ⟨_, (pss_one (ps_ret (pe_chain op_le op_le (pe_glob (v := .int (0)) (by rfl) n_BITS_32 ⟨_, rfl⟩) (pv 0) (pe_glob (v := .int (3)) (by rfl) n_ADLER ⟨_, rfl⟩)))), ?_⟩
    refine ⟨_, rfl, _, _, rfl, rfl, _, rfl, ite2 (fun e => ?_) (fun e => ?_)⟩
    · have e := of_decide_eq_true e
      exact ⟨_, _, rfl, rfl, qb q (decide_eq_decide.mpr (by omega))⟩
    · have e : ¬ 0 ≤ k := fun h => e (decide_eq_true h)
      exact qb q (decide_eq_false (by omega)).symm
/-! ### begun -/
abbrev s_begun : Stmt := top 34
abbrev N_begun : List Str := ["k"]
theorem sc_begun : FnScope N_begun ["k"] (defScope s_begun) := ⟨rfl, rfl, rfl, by decide +kernel, rfl, by decide +kernel, by decide +kernel⟩
def sp_begun : Sp := fun vs H Q _ => ∃ (k : Int) (kd : SKind), vs = [.int k] ∧ kindOf k = some kd ∧ Q (.int (kd.begin_ : Nat)) H
theorem ok_begun (F : Df K mg "begun" s_begun ["k"]) (n_ADLER : Num mg "ADLER" (3)) : Cal P w K mg base "begun" 1 ["k"] sp_begun := by
  obtain ⟨f, fd, F, mF, bF⟩ := F
  obtain ⟨t_ADLER, n_ADLER⟩ := n_ADLER
  refine ⟨f, fd, F.ok sc_begun (fun vs H Q E h => ?_) (fun cdv A outer s H vs Q E hr h => ?_), mF, F.kp, bF, fun_lk F⟩
  · obtain ⟨_, _,  rfl, _⟩ := h
    rfl
  · obtain ⟨k, kd, rfl, hk, q⟩ := h
    refine ⟨_, (pss_cons (ps_if (pt_cmp (pc_eqI (pv 0) (pe_glob (v := .int (3)) (by rfl) n_ADLER ⟨_, rfl⟩))) (pss_one (ps_ret pe_int)) pss_nil)
      (pss_one (ps_ret pe_int))), ?_⟩
    refine ⟨_, rfl, _, _, rfl, rfl, _, rfl, ite2 (fun e => ?_) (fun e => ?_)⟩
    · have e := of_decide_eq_true e
      obtain rfl := kd_3 hk e
      exact q
    · have e : ¬ k = 3 := fun h => e (decide_eq_true h)
      rw [begin_0 hk e] at q
      exact q
/-! ### added -/
abbrev s_added : Stmt := top 35
abbrev N_added : List Str := ["k", "s", "text"]
theorem sc_added : FnScope N_added ["k", "s", "text"] (defScope s_added) := ⟨rfl, rfl, rfl, by decide +kernel, rfl, by decide +kernel, by decide +kernel⟩
def sp_added (K : PySem.W.Frag) : Sp := fun vs H Q _ => ∃ (k : Int) (kd : SKind) (s : Nat) (a : Addr) (b : Bytes), vs = [.int k, .int (s : Nat), .ref a] ∧ kindOf k = some kd ∧ kd.ok s = true ∧ SqL K H a ((bints b).map V.int) ∧ b.length ≤ 1000000 ∧ ∀ H', Same H H' → Q (.int (kd.add s b : Nat)) H'
theorem ok_added (F : Df K mg "added" s_added ["k", "s", "text"]) (C_is_by_bits : Cal P w K mg base "is_by_bits" 1 ["k"] sp_is_by_bits) (C_bits_added : Cal P w K mg base "bits_added" 5 ["k", "state", "text"] (sp_bits_added K)) (C_ones_added : Cal P w K mg base "ones_added" 3 ["state", "text"] (sp_ones_added K)) (C_adler_added : Cal P w K mg base "adler_added" 2 ["state", "text"] (sp_adler_added K)) (n_ONES : Num mg "ONES" (2)) : Cal P w K mg base "added" 6 ["k", "s", "text"] (sp_added K) := by
  obtain ⟨f, fd, F, mF, bF⟩ := F
  obtain ⟨f_is_by_bits, fd_is_by_bits, G_is_by_bits, m_is_by_bits, k_is_by_bits, b_is_by_bits, _⟩ := C_is_by_bits
  obtain ⟨f_bits_added, fd_bits_added, G_bits_added, m_bits_added, k_bits_added, b_bits_added, _⟩ := C_bits_added
  obtain ⟨f_ones_added, fd_ones_added, G_ones_added, m_ones_added, k_ones_added, b_ones_added, _⟩ := C_ones_added
  obtain ⟨f_adler_added, fd_adler_added, G_adler_added, m_adler_added, k_adler_added, b_adler_added, _⟩ := C_adler_added
  obtain ⟨t_ONES, n_ONES⟩ := n_ONES
  refine ⟨f, fd, F.ok sc_added (fun vs H Q E h => ?_) (fun cdv A outer s H vs Q E hr h => ?_), mF, F.kp, bF, fun_lk F⟩
  · obtain ⟨_, _, _, _, _,  rfl, _⟩ := h
    rfl
  · obtain ⟨k, kd, s, a, b, rfl, hk, hs, hS, hb, q⟩ := h
    have hr_is_by_bits : Room 1 _ := hr.mono (by decide)
    have hr_bits_added : Room 5 _ := hr.mono (by decide)
    have hr_ones_added : Room 3 _ := hr.mono (by decide)
    have hr_adler_added : Room 2 _ := hr.mono (by decide)
    refine ⟨_, (pss_cons (ps_if (pt_val (pe_call G_is_by_bits hr_is_by_bits (by rfl) m_is_by_bits k_is_by_bits b_is_by_bits .nil pass0 (pa_cons (pv 0) pa_nil))) (pss_one (ps_ret (pe_call G_bits_added hr_bits_added (by rfl) m_bits_added k_bits_added b_bits_added .nil pass0 (pa_cons (pv 0) (pa_cons (pv 1) (pa_cons (pv 2) pa_nil)))))) pss_nil)
      (pss_cons (ps_if (pt_cmp (pc_eqI (pv 0) (pe_glob (v := .int (2)) (by rfl) n_ONES ⟨_, rfl⟩))) (pss_one (ps_ret (pe_call G_ones_added hr_ones_added (by rfl) m_ones_added k_ones_added b_ones_added .nil pass0 (pa_cons (pv 1) (pa_cons (pv 2) pa_nil))))) pss_nil)
      (pss_one (ps_ret (pe_call G_adler_added hr_adler_added (by rfl) m_adler_added k_adler_added b_adler_added .nil pass0 (pa_cons (pv 1) (pa_cons (pv 2) pa_nil))))))), ?_⟩
    refine ⟨_, rfl, k, rfl, _, rfl, ?_⟩
    rcases kd_cases hk with ⟨p, hp, rfl⟩ | ⟨h, rfl⟩ | ⟨h, rfl⟩
    · rw [decide_eq_true hp.k01]
      exact ⟨_, rfl, _, rfl, _, rfl, k, p, s, a, b, rfl, hp, crc_ok hs, hS, hb, q _ (Same.refl _)⟩
    · rw [decide_eq_false (show ¬ (k = 0 ∨ k = 1) by omega)]
      subst h
      refine ⟨_, rfl, _, _, rfl, rfl, _, rfl, ?_⟩
      exact ⟨_, rfl, _, rfl, s, a, b, rfl, hs, hS, hb, q⟩
    · rw [decide_eq_false (show ¬ (k = 0 ∨ k = 1) by omega)]
      subst h
      refine ⟨_, rfl, _, _, rfl, rfl, _, rfl, ?_⟩
      exact ⟨_, rfl, _, rfl, s, a, b, rfl, hs, hS, hb, q _ (Same.refl _)⟩
/-! ### sum_by -/
abbrev s_sum_by : Stmt := top 36
abbrev N_sum_by : List Str := ["k", "s"]
theorem sc_sum_by : FnScope N_sum_by ["k", "s"] (defScope s_sum_by) := ⟨rfl, rfl, rfl, by decide +kernel, rfl, by decide +kernel, by decide +kernel⟩
def sp_sum_by : Sp := fun vs H Q _ => ∃ (k : Int) (kd : SKind) (s : Nat), vs = [.int k, .int (s : Nat)] ∧ kindOf k = some kd ∧ Q (.int (kd.sum s : Nat)) H
theorem ok_sum_by (F : Df K mg "sum_by" s_sum_by ["k", "s"]) (C_short_of : Cal P w K mg base "short_of" 1 ["state"] sp_short_of) (n_ONES : Num mg "ONES" (2)) (n_MOST : Num mg "MOST" (65535)) : Cal P w K mg base "sum_by" 2 ["k", "s"] sp_sum_by := by
  obtain ⟨f, fd, F, mF, bF⟩ := F
  obtain ⟨f_short_of, fd_short_of, G_short_of, m_short_of, k_short_of, b_short_of, _⟩ := C_short_of
  obtain ⟨t_ONES, n_ONES⟩ := n_ONES
  obtain ⟨t_MOST, n_MOST⟩ := n_MOST
  refine ⟨f, fd, F.ok sc_sum_by (fun vs H Q E h => ?_) (fun cdv A outer s H vs Q E hr h => ?_), mF, F.kp, bF, fun_lk F⟩
  · obtain ⟨_, _, _,  rfl, _⟩ := h
    rfl
  · obtain ⟨k, kd, s, rfl, hk, q⟩ := h
    have hr_short_of : Room 1 _ := hr.mono (by decide)
    refine ⟨_, (pss_cons (ps_if (pt_cmp (pc_eqI (pv 0) (pe_glob (v := .int (2)) (by rfl) n_ONES ⟨_, rfl⟩))) (pss_one (ps_ret (pe_op op_sub (pe_glob (v := .int (65535)) (by rfl) n_MOST ⟨_, rfl⟩) (pe_call G_short_of hr_short_of (by rfl) m_short_of k_short_of b_short_of .nil pass0 (pa_cons (pv 1) pa_nil))))) pss_nil)
      (pss_one (ps_ret (pv 1)))), ?_⟩
    refine ⟨_, rfl, _, _, rfl, rfl, _, rfl, ite2 (fun e => ?_) (fun e => ?_)⟩
    · have e := of_decide_eq_true e
      obtain rfl := kd_2 hk e
      refine ⟨_, rfl, s, rfl, _, _, rfl, rfl, qi q ?_⟩
      show (65535 : Int) - ((s % 65536 : Nat) : Int) = ((65535 - s % 65536 : Nat) : Int)
      omega
    · have e : ¬ k = 2 := fun h => e (decide_eq_true h)
      rw [sum_same hk e] at q
      exact ⟨_, rfl, q⟩
/-! ### sum_bytes -/
abbrev s_sum_bytes : Stmt := top 37
abbrev N_sum_bytes : List Str := ["k", "number", "place"]
theorem sc_sum_bytes : FnScope N_sum_bytes ["k", "number"] (defScope s_sum_bytes) := ⟨rfl, rfl, rfl, by decide +kernel, rfl, by decide +kernel, by decide +kernel⟩
def sp_sum_bytes : Sp := fun vs H Q _ => ∃ (k : Int) (kd : SKind) (x : Nat), vs = [.int k, .int (x : Nat)] ∧ kindOf k = some kd ∧ ∀ H' a, Same H H' → H' a = some (.lst ((bints (Sf81.be kd.size x)).map V.int)) → Q (.ref a) H'
theorem ok_sum_bytes (F : Df K mg "sum_bytes" s_sum_bytes ["k", "number"]) (m_SIZES : Tup K mg "SIZES" [.int 4, .int 8, .int 2, .int 4]) (z_range : mg "range" = none) : Cal P w K mg base "sum_bytes" 1 ["k", "number"] sp_sum_bytes := by
  obtain ⟨f, fd, F, mF, bF⟩ := F
  obtain ⟨a_SIZES, m_SIZES, T_SIZES⟩ := m_SIZES
  refine ⟨f, fd, F.ok sc_sum_bytes (fun vs H Q E h => ?_) (fun cdv A outer s H vs Q E hr h => ?_), mF, F.kp, bF, fun_lk F⟩
  · obtain ⟨_, _, _,  rfl, _⟩ := h
    rfl
  · obtain ⟨k, kd, x, rfl, hk, q⟩ := h
    refine ⟨_, (pss_one (ps_ret (pe_lc (own := [("place", 2)]) (g := (gName 2)) (tt := tYes) rfl sc_sum_bytes.nd (pi_range3 (by rfl) z_range (pa_cons (pe_op op_sub (pe_ix ix_tup (pe_glob (v := .ref a_SIZES) (by rfl) m_SIZES rfl) (pv 0) (fun _ _ => rfl)) pe_int) (pa_cons (pe_un un_neg pe_int) (pa_cons (pe_un un_neg pe_int) pa_nil)))) (blkOk_by (own := [("place", 2)]) (N := N_sum_bytes) (sc := defScope s_sum_bytes) (by decide +kernel)) (fun _ _ _ _ _ => (pg_name (i := 2) sc_sum_bytes.nd rfl (Or.inl rfl))) (fun _ _ _ _ _ => pts_nil) (fun _ _ _ _ _ => (pe_op op_and (pe_op op_shr (pv 1) (pe_op op_mul pe_int (pv 2))) pe_int))))), ?_⟩
    have hz := kd_size_le hk
    have hrg : RgC ((kd.size : Int) - 1) (-1) (-1) kd.size := by
      have h := RgC.neg (i := (kd.size : Int) - 1) (j := -1) (by omega) (by omega) (by omega) (by omega)
      rw [show ((kd.size : Int) - 1 - -1).toNat = kd.size by omega] at h
      exact h
    refine ⟨_, rfl, _, _, _, _, rfl, rfl, T_SIZES _, kd_size hk, _, _, rfl, rfl, _, rfl, _, rfl, (kd.size : Int) - 1, -1, -1, kd.size, rfl, hrg, fun D nD => lc_it (walk_rangeC (lo := (kd.size : Int) - 1) (c := -1) (n := kd.size)) (fun i H1 => Same H H1 ∧ H1 D = some (.lst (((bints (Sf81.be kd.size x)).take i).map V.int))) ⟨same_new nD, upd_same⟩ (fun _ _ _ _ => trivial) ?_ ?_⟩
    · rintro i y H1 H2 hi ⟨h1, hD⟩ ⟨rfl, rfl⟩
      refine ⟨rfl, ?_⟩
      have h8 : (8 : Int) * ((kd.size : Int) - 1 + (i : Nat) * -1) = ((8 * (kd.size - 1 - i) : Nat) : Int) := by omega
      refine ⟨_, rfl, _, rfl, _, _, rfl, rfl, .inl ⟨by decide, by decide⟩, _, _, rfl, rfl, (by show (0 : Int) ≤ 8 * ((kd.size : Int) - 1 + (i : Nat) * -1); omega), _, _, rfl, rfl, _, hD, ?_, Same.mut h1 nD, ?_⟩
      · rw [List.length_map, List.length_take]
        exact szl (by omega)
      · refine upd_same.trans ?_
        rw [take_more (be_get kd.size x i hi), List.map_append]
        show some (HO.lst (_ ++ [V.int (Builtin.bitAnd ((x : Int) / 2 ^ ((8 : Int) * ((kd.size : Int) - 1 + (i : Nat) * -1)).toNat) 255)])) = _
        rw [h8, shr, band255, pow256]
        rfl
    · rintro H1 ⟨h1, hD⟩
      refine q H1 D h1 (hD.trans ?_)
      rw [List.take_of_length_le (by rw [ints_len, be_len]; exact Nat.le_refl _)]
/-! ### sum_of_text -/
abbrev s_sum_of_text : Stmt := top 38
abbrev N_sum_of_text : List Str := ["k", "text"]
theorem sc_sum_of_text : FnScope N_sum_of_text ["k", "text"] (defScope s_sum_of_text) := ⟨rfl, rfl, rfl, by decide +kernel, rfl, by decide +kernel, by decide +kernel⟩
def sp_sum_of_text (K : PySem.W.Frag) : Sp := fun vs H Q _ => ∃ (k : Int) (kd : SKind) (a : Addr) (b : Bytes), vs = [.int k, .ref a] ∧ kindOf k = some kd ∧ SqL K H a ((bints b).map V.int) ∧ b.length ≤ 1000000 ∧ ∀ H', Same H H' → Q (.int (kd.of b : Nat)) H'
theorem ok_sum_of_text (F : Df K mg "sum_of_text" s_sum_of_text ["k", "text"]) (C_sum_by : Cal P w K mg base "sum_by" 2 ["k", "s"] sp_sum_by) (C_added : Cal P w K mg base "added" 6 ["k", "s", "text"] (sp_added K)) (C_begun : Cal P w K mg base "begun" 1 ["k"] sp_begun) : Cal P w K mg base "sum_of_text" 7 ["k", "text"] (sp_sum_of_text K) := by
  obtain ⟨f, fd, F, mF, bF⟩ := F
  obtain ⟨f_sum_by, fd_sum_by, G_sum_by, m_sum_by, k_sum_by, b_sum_by, _⟩ := C_sum_by
  obtain ⟨f_added, fd_added, G_added, m_added, k_added, b_added, _⟩ := C_added
  obtain ⟨f_begun, fd_begun, G_begun, m_begun, k_begun, b_begun, _⟩ := C_begun
  refine ⟨f, fd, F.ok sc_sum_of_text (fun vs H Q E h => ?_) (fun cdv A outer s H vs Q E hr h => ?_), mF, F.kp, bF, fun_lk F⟩
  · obtain ⟨_, _, _, _,  rfl, _⟩ := h
    rfl
  · obtain ⟨k, kd, a, b, rfl, hk, hS, hb, q⟩ := h
    have hr_sum_by : Room 2 _ := hr.mono (by decide)
    have hr_added : Room 6 _ := hr.mono (by decide)
    have hr_begun : Room 1 _ := hr.mono (by decide)
    refine ⟨_, (pss_one (ps_ret (pe_call G_sum_by hr_sum_by (by rfl) m_sum_by k_sum_by b_sum_by .nil pass0 (pa_cons (pv 0) (pa_cons (pe_call G_added hr_added (by rfl) m_added k_added b_added .nil pass0 (pa_cons (pv 0) (pa_cons (pe_call G_begun hr_begun (by rfl) m_begun k_begun b_begun .nil pass0 (pa_cons (pv 0) pa_nil)) (pa_cons (pv 1) pa_nil)))) pa_nil))))), ?_⟩
    exact ⟨_, rfl, _, rfl, _, rfl, k, kd, rfl, hk, _, rfl, k, kd, kd.begin_, a, b, rfl, hk, begin_ok hk, hS, hb, fun H1 h1 => ⟨k, kd, kd.add kd.begin_ b, rfl, hk, q H1 h1⟩⟩
/-! ### is_text -/
abbrev s_is_text : Stmt := top 42
abbrev N_is_text : List Str := ["text"]
theorem sc_is_text : FnScope N_is_text ["text"] (defScope s_is_text) := ⟨rfl, rfl, rfl, by decide +kernel, rfl, by decide +kernel, by decide +kernel⟩
def sp_is_text (K : PySem.W.Frag) : Sp := fun vs H Q _ => ∃ (a : Addr) (b : Bytes), vs = [.ref a] ∧ SqL K H a ((bints b).map V.int) ∧ Q (.bl (decide (b.length ≤ 65536))) H
theorem ok_is_text (F : Df K mg "is_text" s_is_text ["text"]) (n_LONGEST : Num mg "LONGEST" (65536)) (z_len : mg "len" = none) : Cal P w K mg base "is_text" 1 ["text"] (sp_is_text K) := by
  obtain ⟨f, fd, F, mF, bF⟩ := F
  obtain ⟨t_LONGEST, n_LONGEST⟩ := n_LONGEST
  refine ⟨f, fd, F.ok sc_is_text (fun vs H Q E h => ?_) (fun cdv A outer s H vs Q E hr h => ?_), mF, F.kp, bF, fun_lk F⟩
  · obtain ⟨_, _,  rfl, _⟩ := h
    rfl
  · obtain ⟨a, b, rfl, hS, q⟩ := h
    refine ⟨_, (pss_one (ps_ret (pe_cmp (pc_le (pe_callB (r := rLenK K) call_len_seq (by rfl) z_len PySem.boot_len (pa_cons (pv 0) pa_nil)) (pe_glob (v := .int (65536)) (by rfl) n_LONGEST ⟨_, rfl⟩))))), ?_⟩
    refine ⟨_, rfl, a, _, rfl, .inl hS, _, _, rfl, rfl, qb q (decide_eq_decide.mpr ?_)⟩
    rw [vints_len]
    omega
/-! ### has_room -/
abbrev s_has_room : Stmt := top 43
abbrev N_has_room : List Str := ["k", "at", "text"]
theorem sc_has_room : FnScope N_has_room ["k", "at", "text"] (defScope s_has_room) := ⟨rfl, rfl, rfl, by decide +kernel, rfl, by decide +kernel, by decide +kernel⟩
def sp_has_room (K : PySem.W.Frag) : Sp := fun vs H Q _ => ∃ (k : Int) (kd : SKind) (t : Int) (a : Addr) (b : Bytes), vs = [.int k, .int t, .ref a] ∧ kindOf k = some kd ∧ SqL K H a ((bints b).map V.int) ∧ Q (.bl (Sf81.placeOk kd t b)) H
theorem ok_has_room (F : Df K mg "has_room" s_has_room ["k", "at", "text"]) (m_SIZES : Tup K mg "SIZES" [.int 4, .int 8, .int 2, .int 4]) (z_len : mg "len" = none) : Cal P w K mg base "has_room" 1 ["k", "at", "text"] (sp_has_room K) := by
  obtain ⟨f, fd, F, mF, bF⟩ := F
  obtain ⟨a_SIZES, m_SIZES, T_SIZES⟩ := m_SIZES
  refine ⟨f, fd, F.ok sc_has_room (fun vs H Q E h => ?_) (fun cdv A outer s H vs Q E hr h => ?_), mF, F.kp, bF, fun_lk F⟩
  · obtain ⟨_, _, _, _, _,  rfl, _⟩ := h
    rfl
  · obtain ⟨k, kd, t, a, b, rfl, hk, hS, q⟩ := h
    refine ⟨_, (pss_one (ps_ret (pe_and (pe_cmp (pc_le pe_int (pv 1))) (pe_one (pe_cmp (pc_le (pe_op op_add (pv 1) (pe_ix ix_tup (pe_glob (v := .ref a_SIZES) (by rfl) m_SIZES rfl) (pv 0) (fun _ _ => rfl))) (pe_callB (r := rLenK K) call_len_seq (by rfl) z_len PySem.boot_len (pa_cons (pv 2) pa_nil)))))))), ?_⟩
    refine ⟨_, rfl, _, _, rfl, rfl, _, rfl, ite2 (fun e => ?_) (fun e => ?_)⟩
    · have e := of_decide_eq_true e
      refine ⟨_, rfl, _, rfl, _, _, _, _, rfl, rfl, T_SIZES _, kd_size hk, _, _, rfl, rfl, _, rfl, a, _, rfl, .inl hS, _, _, rfl, rfl, qb q ?_⟩
      show decide (t + (kd.size : Int) ≤ (((bints b).map V.int).length : Int)) = (decide (0 ≤ t) && decide (t + (kd.size : Int) ≤ (b.length : Int)))
      rw [vints_len, decide_eq_true e, Bool.true_and]
    · have e : ¬ 0 ≤ t := fun h => e (decide_eq_true h)
      refine qb q ?_
      show false = (decide (0 ≤ t) && decide (t + (kd.size : Int) ≤ (b.length : Int)))
      rw [decide_eq_false e, Bool.false_and]
/-! ### with_sum -/
abbrev s_with_sum : Stmt := top 44
abbrev N_with_sum : List Str := ["k", "at", "text", "ahead", "behind", "number"]
theorem sc_with_sum : FnScope N_with_sum ["k", "at", "text"] (defScope s_with_sum) := ⟨rfl, rfl, rfl, by decide +kernel, rfl, by decide +kernel, by decide +kernel⟩
def sp_with_sum (K : PySem.W.Frag) : Sp := fun vs H Q _ => ∃ (k : Int) (kd : SKind) (t : Nat) (a : Addr) (b : Bytes), vs = [.int k, .int (t : Nat), .ref a] ∧ kindOf k = some kd ∧ SqL K H a ((bints b).map V.int) ∧ t + kd.size ≤ b.length ∧ b.length ≤ 65536 ∧ ∀ H' p, Same H H' → H' p = some (.lst ((bints (kd.put b t)).map V.int)) → Q (.ref p) H'
theorem ok_with_sum (F : Df K mg "with_sum" s_with_sum ["k", "at", "text"]) (C_sum_of_text : Cal P w K mg base "sum_of_text" 7 ["k", "text"] (sp_sum_of_text K)) (C_sum_bytes : Cal P w K mg base "sum_bytes" 1 ["k", "number"] sp_sum_bytes) (m_SIZES : Tup K mg "SIZES" [.int 4, .int 8, .int 2, .int 4]) : Cal P w K mg base "with_sum" 8 ["k", "at", "text"] (sp_with_sum K) := by
  obtain ⟨f, fd, F, mF, bF⟩ := F
  obtain ⟨f_sum_of_text, fd_sum_of_text, G_sum_of_text, m_sum_of_text, k_sum_of_text, b_sum_of_text, _⟩ := C_sum_of_text
  obtain ⟨f_sum_bytes, fd_sum_bytes, G_sum_bytes, m_sum_bytes, k_sum_bytes, b_sum_bytes, _⟩ := C_sum_bytes
  obtain ⟨a_SIZES, m_SIZES, T_SIZES⟩ := m_SIZES
  refine ⟨f, fd, F.ok sc_with_sum (fun vs H Q E h => ?_) (fun cdv A outer s H vs Q E hr h => ?_), mF, F.kp, bF, fun_lk F⟩
  · obtain ⟨_, _, _, _, _,  rfl, _⟩ := h
    rfl
  · obtain ⟨k, kd, t, a, b, rfl, hk, hS, ht, hb, q⟩ := h
    have hr_sum_of_text : Room 7 _ := hr.mono (by decide)
    have hr_sum_bytes : Room 1 _ := hr.mono (by decide)
    refine ⟨_, (pss_cons (ps_set (i := 3) sc_with_sum.nd rfl (Or.inl rfl) (pe_slice sl_list (pv 2) po_none (po_some (pv 1))))
      (pss_cons (ps_set (i := 4) sc_with_sum.nd rfl (Or.inl rfl) (pe_slice sl_list (pv 2) (po_some (pe_op op_add (pv 1) (pe_ix ix_tup (pe_glob (v := .ref a_SIZES) (by rfl) m_SIZES rfl) (pv 0) (fun _ _ => rfl)))) po_none))
      (pss_cons (ps_set (i := 5) sc_with_sum.nd rfl (Or.inl rfl) (pe_call G_sum_of_text hr_sum_of_text (by rfl) m_sum_of_text k_sum_of_text b_sum_of_text .nil pass0 (pa_cons (pv 0) (pa_cons (pe_op op_cat (pe_op op_cat (pv 3) (pe_op op_rep (pe_lst (pa_cons pe_int pa_nil)) (pe_ix ix_tup (pe_glob (v := .ref a_SIZES) (by rfl) m_SIZES rfl) (pv 0) (fun _ _ => rfl)))) (pv 4)) pa_nil))))
      (pss_one (ps_ret (pe_op op_cat (pe_op op_cat (pv 3) (pe_call G_sum_bytes hr_sum_bytes (by rfl) m_sum_bytes k_sum_bytes b_sum_bytes .nil pass0 (pa_cons (pv 0) (pa_cons (pv 5) pa_nil)))) (pv 4))))))), ?_⟩
    have hz := kd_size_le hk
    have hlA : (b.take t).length = t := by
      rw [List.length_take]
      omega
    have hlB : (b.drop (t + kd.size)).length = b.length - (t + kd.size) := List.length_drop
    have c1 := cut_head (b := b) (j := t) (by omega)
    have c2 := cut_tail (b := b) (i := t + kd.size) (by omega)
    have c2' : cutV ((bints b).map V.int) (some ((t : Int) + (kd.size : Nat))) none = (bints (b.drop (t + kd.size))).map V.int := c2
    -- ahead, behind
    refine ⟨_, rfl, _, rfl, _, rfl, a, _, rfl, hS, fun p1 n1 => ?_⟩
    have s1 : Same H (upd H p1 (.lst (cutV ((bints b).map V.int) none (some (t : Int))))) := same_new n1
    have e1 : (upd H p1 (.lst (cutV ((bints b).map V.int) none (some (t : Int))))) p1 = some (.lst ((bints (b.take t)).map V.int)) := by rw [upd_same, c1]
    revert s1 e1
    generalize upd H p1 (.lst (cutV ((bints b).map V.int) none (some (t : Int)))) = H1
    intro s1 e1
    refine ⟨_, rfl, _, rfl, _, rfl, _, _, _, _, rfl, rfl, T_SIZES _, kd_size hk, _, _, rfl, rfl, _, rfl, a, _, rfl, s1.seq hS, fun p2 n2 => ?_⟩
    have s2 : Same H1 (upd H1 p2 (.lst (cutV ((bints b).map V.int) (some ((t : Int) + (kd.size : Nat))) none))) := same_new n2
    have e2 : (upd H1 p2 (.lst (cutV ((bints b).map V.int) (some ((t : Int) + (kd.size : Nat))) none))) p2 = some (.lst ((bints (b.drop (t + kd.size))).map V.int)) := by rw [upd_same, c2']
    have e12 := s2 _ _ e1
    have s02 := s1.trans s2
    show (_ : Prop)
    revert s2 e2 e12 s02
    generalize upd H1 p2 (.lst (cutV ((bints b).map V.int) (some ((t : Int) + (kd.size : Nat))) none)) = H2
    intro s2 e2 e12 s02
    -- the text with bytes of 0
    refine ⟨_, rfl, _, rfl, (by show 1 ≤ sizeLine; decide), fun p3 n3 => ?_⟩
    have s3 := same_new (o := .lst [.int 0]) n3
    refine ⟨_, rfl, _, _, _, _, rfl, rfl, T_SIZES _, kd_size hk, p3, _, _, rfl, rfl, upd_same, by omega, by omega, ?_, fun p4 n4 => ?_⟩
    · exact sz (by show 1 * ((kd.size : Nat) : Int).toNat ≤ 1000000; rw [Int.toNat_natCast]; omega)
    have s4 := same_new (o := .lst (List.replicate ((kd.size : Nat) : Int).toNat [V.int 0]).flatten) n4
    have e4 : (upd (upd H2 p3 (.lst [.int 0])) p4 (.lst (List.replicate ((kd.size : Nat) : Int).toNat [V.int 0]).flatten)) p4 = some (.lst ((bints (Sf81.be kd.size 0)).map V.int)) := by rw [upd_same, Int.toNat_natCast, zeros_is0]
    have s24 := s3.trans s4
    have e14 := s24 _ _ e12
    have e24 := s24 _ _ e2
    have s04 := s02.trans s24
    revert e4 s24 e14 e24 s04
    generalize upd (upd H2 p3 (.lst [.int 0])) p4 (.lst (List.replicate ((kd.size : Nat) : Int).toNat [V.int 0]).flatten) = H4
    intro e4 s24 e14 e24 s04
    refine ⟨p1, p4, _, _, rfl, rfl, e14, e4, ?_, fun p5 n5 => ?_⟩
    · rw [vints_len, vints_len, be_len]
      exact sz (by omega)
    have s5 := same_new (o := .lst ((bints (b.take t)).map V.int ++ (bints (Sf81.be kd.size 0)).map V.int)) n5
    have e15 := s5 _ _ e14
    have e25 := s5 _ _ e24
    have s05 := s04.trans s5
    refine ⟨_, rfl, p5, p2, _, _, rfl, rfl, upd_same, e25, ?_, fun p6 n6 => ?_⟩
    · rw [List.length_append, vints_len, vints_len, vints_len, be_len]
      exact sz (by omega)
    have s6 := same_new (o := .lst ((bints (b.take t)).map V.int ++ (bints (Sf81.be kd.size 0)).map V.int ++ (bints (b.drop (t + kd.size))).map V.int)) n6
    have e16 := s6 _ _ e15
    have e26 := s6 _ _ e25
    have s06 := s05.trans s6
    have ov := over_is b t (Sf81.be kd.size 0)
    rw [be_len] at ov
    have e6 : (upd (upd H4 p5 (.lst ((bints (b.take t)).map V.int ++ (bints (Sf81.be kd.size 0)).map V.int))) p6 (.lst ((bints (b.take t)).map V.int ++ (bints (Sf81.be kd.size 0)).map V.int ++ (bints (b.drop (t + kd.size))).map V.int))) p6 = some (.lst ((bints (Sf81.over b t (Sf81.be kd.size 0))).map V.int)) := by rw [upd_same, ov]
    refine ⟨k, kd, p6, Sf81.over b t (Sf81.be kd.size 0), rfl, hk, .inl (.inl e6), ?_, fun H7 h7 => ?_⟩
    · rw [over_len (by rw [be_len]; exact ht)]
      omega
    have e17 := h7 _ _ e16
    have e27 := h7 _ _ e26
    have s07 := s06.trans h7
    -- the answer
    refine ⟨_, rfl, _, rfl, _, rfl, k, kd, kd.of (Sf81.over b t (Sf81.be kd.size 0)), rfl, hk, fun H8 p8 h8 hp8 => ?_⟩
    have e18 := h8 _ _ e17
    have e28 := h8 _ _ e27
    have s08 := s07.trans h8
    refine ⟨p1, p8, _, _, rfl, rfl, e18, hp8, ?_, fun p9 n9 => ?_⟩
    · rw [vints_len, vints_len, be_len]
      exact sz (by omega)
    have s9 := same_new (o := .lst ((bints (b.take t)).map V.int ++ (bints (Sf81.be kd.size (kd.of (Sf81.over b t (Sf81.be kd.size 0))))).map V.int)) n9
    have e29 := s9 _ _ e28
    refine ⟨_, rfl, p9, p2, _, _, rfl, rfl, upd_same, e29, ?_, fun pA nA => ?_⟩
    · rw [List.length_append, vints_len, vints_len, vints_len, be_len]
      exact sz (by omega)
    refine q _ pA ((s08.trans s9).trans (same_new nA)) (upd_same.trans ?_)
    have ov2 := over_is b t (Sf81.be kd.size (kd.of (Sf81.over b t (Sf81.be kd.size 0))))
    rw [be_len] at ov2
    rw [ov2]
    rfl
/-! ### put -/
abbrev s_put : Stmt := top 45
abbrev N_put : List Str := ["k", "at", "text"]
theorem sc_put : FnScope N_put ["k", "at", "text"] (defScope s_put) := ⟨rfl, rfl, rfl, by decide +kernel, rfl, by decide +kernel, by decide +kernel⟩
def sp_put (K : PySem.W.Frag) : Sp := fun vs H Q _ => ∃ (k t : Int) (a : Addr) (b : Bytes), vs = [.int k, .int t, .ref a] ∧ SqL K H a ((bints b).map V.int) ∧ b.length ≤ 1000000 ∧ ∀ H' p, H' p = some (.lst ((Sf81Neutral.listOf (Sf81.does (.put k t b))).map V.int)) → Q (.ref p) H'
theorem ok_put (F : Df K mg "put" s_put ["k", "at", "text"]) (C_has_room : Cal P w K mg base "has_room" 1 ["k", "at", "text"] (sp_has_room K)) (C_is_text : Cal P w K mg base "is_text" 1 ["text"] (sp_is_text K)) (C_is_kind : Cal P w K mg base "is_kind" 1 ["k"] sp_is_kind) (C_with_sum : Cal P w K mg base "with_sum" 8 ["k", "at", "text"] (sp_with_sum K)) (n_BAD : Num mg "BAD" (-1)) (z_len : mg "len" = none) : Cal P w K mg base "put" 9 ["k", "at", "text"] (sp_put K) := by
  obtain ⟨f, fd, F, mF, bF⟩ := F
  obtain ⟨f_has_room, fd_has_room, G_has_room, m_has_room, k_has_room, b_has_room, _⟩ := C_has_room
  obtain ⟨f_is_text, fd_is_text, G_is_text, m_is_text, k_is_text, b_is_text, _⟩ := C_is_text
  obtain ⟨f_is_kind, fd_is_kind, G_is_kind, m_is_kind, k_is_kind, b_is_kind, _⟩ := C_is_kind
  obtain ⟨f_with_sum, fd_with_sum, G_with_sum, m_with_sum, k_with_sum, b_with_sum, _⟩ := C_with_sum
  obtain ⟨t_BAD, n_BAD⟩ := n_BAD
  refine ⟨f, fd, F.ok sc_put (fun vs H Q E h => ?_) (fun cdv A outer s H vs Q E hr h => ?_), mF, F.kp, bF, fun_lk F⟩
  · obtain ⟨_, _, _, _,  rfl, _⟩ := h
    rfl
  · obtain ⟨k, t, a, b, rfl, hS, hb, q⟩ := h
    have hr_has_room : Room 1 _ := hr.mono (by decide)
    have hr_is_text : Room 1 _ := hr.mono (by decide)
    have hr_is_kind : Room 1 _ := hr.mono (by decide)
    have hr_with_sum : Room 8 _ := hr.mono (by decide)
    refine ⟨_, (pss_cons (ps_if (PW.pt (pw_or (pt_not (pt_val (pe_call G_is_kind hr_is_kind (by rfl) m_is_kind k_is_kind b_is_kind .nil pass0 (pa_cons (pv 0) pa_nil)))) (pw_or (pt_not (pt_val (pe_call G_is_text hr_is_text (by rfl) m_is_text k_is_text b_is_text .nil pass0 (pa_cons (pv 2) pa_nil)))) (pw_or1 (pt_not (pt_val (pe_call G_has_room hr_has_room (by rfl) m_has_room k_has_room b_has_room .nil pass0 (pa_cons (pv 0) (pa_cons (pv 1) (pa_cons (pv 2) pa_nil)))))))))) (pss_one (ps_ret (pe_lst (pa_cons (pe_glob (v := .int (-1)) (by rfl) n_BAD ⟨_, rfl⟩) pa_nil)))) pss_nil)
      (pss_one (ps_ret (pe_op op_cat (pe_lst (pa_cons (pe_callB (r := rLenK K) call_len_seq (by rfl) z_len PySem.boot_len (pa_cons (pv 2) pa_nil)) pa_nil)) (pe_call G_with_sum hr_with_sum (by rfl) m_with_sum k_with_sum b_with_sum .nil pass0 (pa_cons (pv 0) (pa_cons (pv 1) (pa_cons (pv 2) pa_nil)))))))), ?_⟩
    have bad : Sf81.does (.put k t b) = Sf81.says (-1) → ∀ H' p, H' p = some (.lst [.int (-1)]) → Q (.ref p) H' := fun e H' p h => q H' p (fin e h rfl)
    refine ⟨_, rfl, k, rfl, _, rfl, ?_⟩
    by_cases hk : 0 ≤ k ∧ k ≤ 3
    · obtain ⟨kd, ek⟩ := kd_some hk
      rw [decide_eq_true hk]
      refine ⟨_, rfl, a, b, rfl, hS, _, rfl, ?_⟩
      by_cases hl : b.length ≤ 65536
      · rw [decide_eq_true hl]
        refine ⟨_, rfl, _, rfl, _, rfl, k, kd, t, a, b, rfl, ek, hS, _, rfl, ?_⟩
        cases hr2 : Sf81.placeOk kd t b with
        | true =>
          have good := (ofKind_some ek _ : Sf81.does (.put k t b) = _).trans (if_pos ⟨hl, hr2⟩)
          have hr3 : (decide (0 ≤ t) && decide (t + (kd.size : Int) ≤ (b.length : Int))) = true := hr2
          rw [Bool.and_eq_true, decide_eq_true_eq, decide_eq_true_eq] at hr3
          obtain ⟨i, rfl⟩ := Int.eq_ofNat_of_zero_le hr3.1
          refine ⟨_, rfl, a, _, rfl, .inl hS, (by show 1 ≤ sizeLine; decide), fun l nl => ?_⟩
          have sl := same_new (o := .lst [.int (((bints b).map V.int).length : Nat)]) nl
          refine ⟨_, rfl, _, rfl, _, rfl, k, kd, i, a, b, rfl, ek, sl.seq hS, by omega, hl, fun H2 p2 h2 hp2 => ?_⟩
          have hpl : (kd.put b i).length = b.length := over_len (by rw [be_len]; omega)
          refine ⟨l, p2, _, _, rfl, rfl, h2 _ _ upd_same, hp2, ?_, fun l2 nl2 => ?_⟩
          · show 1 + ((bints (kd.put b i)).map V.int).length ≤ sizeLine
            rw [vints_len, hpl]
            exact sz (by show 1 + b.length ≤ 1000000; omega)
          · refine q _ l2 (fin good upd_same ?_)
            show _ = V.int (b.length : Nat) :: ((Sf81.nums (kd.put b i)).map (fun (n : Nat) => (n : Int))).map V.int
            rw [nums_ints, vints_len]
            rfl
        | false => exact ⟨(by show 1 ≤ sizeLine; decide), fun a' ha => bad ((ofKind_some ek _).trans (if_neg fun h => Bool.noConfusion (hr2.symm.trans h.2))) _ a' upd_same⟩
      · rw [decide_eq_false hl]
        exact ⟨(by show 1 ≤ sizeLine; decide), fun a' ha => bad ((ofKind_some ek _).trans (if_neg fun h => hl h.1)) _ a' upd_same⟩
    · rw [decide_eq_false hk]
      exact ⟨(by show 1 ≤ sizeLine; decide), fun a' ha => bad (ofKind_none (kd_none hk) _) _ a' upd_same⟩
end
end DS
open PySem PySem.W PyProof.Rows
set_option maxRecDepth 100000 in
set_option maxHeartbeats 0 in
theorem PySem.Challenge.cw_damagesums_s08_put_holds : PySem.Challenge.rw_damagesums_s08_put.Holds := by
  w_on; k_headS; (case hw => exact ⟨[.int 0, .int 0, .list []], by decide +kernel, by decide +kernel⟩)
  k_fillS
  refine L2.walk_specK (r := PySem.Challenge.rw_damagesums_s08_put) (k := 9) (CX := L2.CX0) (ps := ["k", "at", "text"]) (sp := DS.sp_put) (by decide +kernel) rfl rfl ⟨rfl, by decide, by decide⟩ (fun w h Y => PySem.W.kIn_of Y) ?F ?S (fun _ _ _ _ z => z)
  case F =>
    intro w mg fa h Y KX G hmg
    refine' DS.num_with (x := "SHIFT") (i := (65536)) KX G ?a ?_
    (case a => k_is)
    intro n_SHIFT
    refine' DS.num_with (x := "MODULUS") (i := (65521)) KX G ?a ?_
    (case a => k_is)
    intro n_MODULUS
    refine' DS.num_with (x := "ODD") (i := (65536)) KX G ?a ?_
    (case a => k_is)
    intro n_ODD
    refine' DS.num_with (x := "MOST") (i := (65535)) KX G ?a ?_
    (case a => k_is)
    intro n_MOST
    refine' DS.num_with (x := "BITS_64") (i := (1)) KX G ?a ?_
    (case a => k_is)
    intro n_BITS_64
    refine' DS.num_with (x := "BITS_32") (i := (0)) KX G ?a ?_
    (case a => k_is)
    intro n_BITS_32
    refine' DS.num_with (x := "ADLER") (i := (3)) KX G ?a ?_
    (case a => k_is)
    intro n_ADLER
    refine' DS.num_with (x := "ONES") (i := (2)) KX G ?a ?_
    (case a => k_is)
    intro n_ONES
    refine' DS.num_with (x := "LONGEST") (i := (65536)) KX G ?a ?_
    (case a => k_is)
    intro n_LONGEST
    refine' DS.num_with (x := "BAD") (i := (-1)) KX G ?a ?_
    (case a => k_is)
    intro n_BAD
    refine' DS.tup2_with (x := "FEEDS") (i := 2197175160) (j := 14514072000185962306) KX G ?a ?l ?_
    (case a => k_is); (case l => k_is)
    intro m_FEEDS
    refine' DS.tup2_with (x := "ALL_ONES") (i := 4294967295) (j := 18446744073709551615) KX G ?a ?l ?_
    (case a => k_is); (case l => k_is)
    intro m_ALL_ONES
    refine' DS.tup4_with (x := "SIZES") (i := 4) (j := 8) (i2 := 2) (j2 := 4) KX G ?a ?l ?_
    (case a => k_is); (case l => k_is)
    intro m_SIZES
    refine' DS.none_with (x := "range") KX G ?a ?_
    (case a => k_is)
    intro z_range
    refine' DS.none_with (x := "enumerate") KX G ?a ?_
    (case a => k_is)
    intro z_enumerate
    refine' DS.none_with (x := "len") KX G ?a ?_
    (case a => k_is)
    intro z_len
    refine' DS.df_with (x := "one_bit_on") (st := DS.s_one_bit_on) (ps := ["k", "x"]) KX G ?a ?l ?c ?k (fun _ _ _ _ _ _ us hl => match us, hl with | [_, _], _ => rfl) ?_
    (case a => k_is); (case l => k_is); (case c => k_is); (case k => k_is)
    intro F_one_bit_on
    refine' DS.df_with (x := "bits_on") (st := DS.s_bits_on) (ps := ["k", "x", "many"]) KX G ?a ?l ?c ?k (fun _ _ _ _ _ _ us hl => match us, hl with | [_, _, _], _ => rfl) ?_
    (case a => k_is); (case l => k_is); (case c => k_is); (case k => k_is)
    intro F_bits_on
    refine' DS.df_with (x := "byte_by") (st := DS.s_byte_by) (ps := ["k", "x", "octet"]) KX G ?a ?l ?c ?k (fun _ _ _ _ _ _ us hl => match us, hl with | [_, _, _], _ => rfl) ?_
    (case a => k_is); (case l => k_is); (case c => k_is); (case k => k_is)
    intro F_byte_by
    refine' DS.df_with (x := "bytes_by") (st := DS.s_bytes_by) (ps := ["k", "x", "text"]) KX G ?a ?l ?c ?k (fun _ _ _ _ _ _ us hl => match us, hl with | [_, _, _], _ => rfl) ?_
    (case a => k_is); (case l => k_is); (case c => k_is); (case k => k_is)
    intro F_bytes_by
    refine' DS.df_with (x := "turned") (st := DS.s_turned) (ps := ["k", "x"]) KX G ?a ?l ?c ?k (fun _ _ _ _ _ _ us hl => match us, hl with | [_, _], _ => rfl) ?_
    (case a => k_is); (case l => k_is); (case c => k_is); (case k => k_is)
    intro F_turned
    refine' DS.df_with (x := "bits_added") (st := DS.s_bits_added) (ps := ["k", "state", "text"]) KX G ?a ?l ?c ?k (fun _ _ _ _ _ _ us hl => match us, hl with | [_, _, _], _ => rfl) ?_
    (case a => k_is); (case l => k_is); (case c => k_is); (case k => k_is)
    intro F_bits_added
    refine' DS.df_with (x := "low_of") (st := DS.s_low_of) (ps := ["state"]) KX G ?a ?l ?c ?k (fun _ _ _ _ _ _ us hl => match us, hl with | [_], _ => rfl) ?_
    (case a => k_is); (case l => k_is); (case c => k_is); (case k => k_is)
    intro F_low_of
    refine' DS.df_with (x := "high_of") (st := DS.s_high_of) (ps := ["state"]) KX G ?a ?l ?c ?k (fun _ _ _ _ _ _ us hl => match us, hl with | [_], _ => rfl) ?_
    (case a => k_is); (case l => k_is); (case c => k_is); (case k => k_is)
    intro F_high_of
    refine' DS.df_with (x := "adler_state") (st := DS.s_adler_state) (ps := ["low", "high"]) KX G ?a ?l ?c ?k (fun _ _ _ _ _ _ us hl => match us, hl with | [_, _], _ => rfl) ?_
    (case a => k_is); (case l => k_is); (case c => k_is); (case k => k_is)
    intro F_adler_state
    refine' DS.df_with (x := "adler_added") (st := DS.s_adler_added) (ps := ["state", "text"]) KX G ?a ?l ?c ?k (fun _ _ _ _ _ _ us hl => match us, hl with | [_, _], _ => rfl) ?_
    (case a => k_is); (case l => k_is); (case c => k_is); (case k => k_is)
    intro F_adler_added
    refine' DS.df_with (x := "is_odd") (st := DS.s_is_odd) (ps := ["state"]) KX G ?a ?l ?c ?k (fun _ _ _ _ _ _ us hl => match us, hl with | [_], _ => rfl) ?_
    (case a => k_is); (case l => k_is); (case c => k_is); (case k => k_is)
    intro F_is_odd
    refine' DS.df_with (x := "short_of") (st := DS.s_short_of) (ps := ["state"]) KX G ?a ?l ?c ?k (fun _ _ _ _ _ _ us hl => match us, hl with | [_], _ => rfl) ?_
    (case a => k_is); (case l => k_is); (case c => k_is); (case k => k_is)
    intro F_short_of
    refine' DS.df_with (x := "cut_above") (st := DS.s_cut_above) (ps := ["total"]) KX G ?a ?l ?c ?k (fun _ _ _ _ _ _ us hl => match us, hl with | [_], _ => rfl) ?_
    (case a => k_is); (case l => k_is); (case c => k_is); (case k => k_is)
    intro F_cut_above
    refine' DS.df_with (x := "cut_down") (st := DS.s_cut_down) (ps := ["total"]) KX G ?a ?l ?c ?k (fun _ _ _ _ _ _ us hl => match us, hl with | [_], _ => rfl) ?_
    (case a => k_is); (case l => k_is); (case c => k_is); (case k => k_is)
    intro F_cut_down
    refine' DS.df_with (x := "total_of") (st := DS.s_total_of) (ps := ["text", "odd"]) KX G ?a ?l ?c ?k (fun _ _ _ _ _ _ us hl => match us, hl with | [_, _], _ => rfl) ?_
    (case a => k_is); (case l => k_is); (case c => k_is); (case k => k_is)
    intro F_total_of
    refine' DS.df_with (x := "ones_state") (st := DS.s_ones_state) (ps := ["short", "odd"]) KX G ?a ?l ?c ?k (fun _ _ _ _ _ _ us hl => match us, hl with | [_, _], _ => rfl) ?_
    (case a => k_is); (case l => k_is); (case c => k_is); (case k => k_is)
    intro F_ones_state
    refine' DS.df_with (x := "ones_added") (st := DS.s_ones_added) (ps := ["state", "text"]) KX G ?a ?l ?c ?k (fun _ _ _ _ _ _ us hl => match us, hl with | [_, _], _ => rfl) ?_
    (case a => k_is); (case l => k_is); (case c => k_is); (case k => k_is)
    intro F_ones_added
    refine' DS.df_with (x := "is_by_bits") (st := DS.s_is_by_bits) (ps := ["k"]) KX G ?a ?l ?c ?k (fun _ _ _ _ _ _ us hl => match us, hl with | [_], _ => rfl) ?_
    (case a => k_is); (case l => k_is); (case c => k_is); (case k => k_is)
    intro F_is_by_bits
    refine' DS.df_with (x := "is_kind") (st := DS.s_is_kind) (ps := ["k"]) KX G ?a ?l ?c ?k (fun _ _ _ _ _ _ us hl => match us, hl with | [_], _ => rfl) ?_
    (case a => k_is); (case l => k_is); (case c => k_is); (case k => k_is)
    intro F_is_kind
    refine' DS.df_with (x := "begun") (st := DS.s_begun) (ps := ["k"]) KX G ?a ?l ?c ?k (fun _ _ _ _ _ _ us hl => match us, hl with | [_], _ => rfl) ?_
    (case a => k_is); (case l => k_is); (case c => k_is); (case k => k_is)
    intro F_begun
    refine' DS.df_with (x := "added") (st := DS.s_added) (ps := ["k", "s", "text"]) KX G ?a ?l ?c ?k (fun _ _ _ _ _ _ us hl => match us, hl with | [_, _, _], _ => rfl) ?_
    (case a => k_is); (case l => k_is); (case c => k_is); (case k => k_is)
    intro F_added
    refine' DS.df_with (x := "sum_by") (st := DS.s_sum_by) (ps := ["k", "s"]) KX G ?a ?l ?c ?k (fun _ _ _ _ _ _ us hl => match us, hl with | [_, _], _ => rfl) ?_
    (case a => k_is); (case l => k_is); (case c => k_is); (case k => k_is)
    intro F_sum_by
    refine' DS.df_with (x := "sum_bytes") (st := DS.s_sum_bytes) (ps := ["k", "number"]) KX G ?a ?l ?c ?k (fun _ _ _ _ _ _ us hl => match us, hl with | [_, _], _ => rfl) ?_
    (case a => k_is); (case l => k_is); (case c => k_is); (case k => k_is)
    intro F_sum_bytes
    refine' DS.df_with (x := "sum_of_text") (st := DS.s_sum_of_text) (ps := ["k", "text"]) KX G ?a ?l ?c ?k (fun _ _ _ _ _ _ us hl => match us, hl with | [_, _], _ => rfl) ?_
    (case a => k_is); (case l => k_is); (case c => k_is); (case k => k_is)
    intro F_sum_of_text
    refine' DS.df_with (x := "is_text") (st := DS.s_is_text) (ps := ["text"]) KX G ?a ?l ?c ?k (fun _ _ _ _ _ _ us hl => match us, hl with | [_], _ => rfl) ?_
    (case a => k_is); (case l => k_is); (case c => k_is); (case k => k_is)
    intro F_is_text
    refine' DS.df_with (x := "has_room") (st := DS.s_has_room) (ps := ["k", "at", "text"]) KX G ?a ?l ?c ?k (fun _ _ _ _ _ _ us hl => match us, hl with | [_, _, _], _ => rfl) ?_
    (case a => k_is); (case l => k_is); (case c => k_is); (case k => k_is)
    intro F_has_room
    refine' DS.df_with (x := "with_sum") (st := DS.s_with_sum) (ps := ["k", "at", "text"]) KX G ?a ?l ?c ?k (fun _ _ _ _ _ _ us hl => match us, hl with | [_, _, _], _ => rfl) ?_
    (case a => k_is); (case l => k_is); (case c => k_is); (case k => k_is)
    intro F_with_sum
    refine' DS.df_with (x := "put") (st := DS.s_put) (ps := ["k", "at", "text"]) KX G ?a ?l ?c ?k (fun _ _ _ _ _ _ us hl => match us, hl with | [_, _, _], _ => rfl) ?_
    (case a => k_is); (case l => k_is); (case c => k_is); (case k => k_is)
    intro F_put
    obtain ⟨f, fd, hF, hm, hb⟩ := id F_put
    obtain rfl : fa = f := by
      have e := hmg.symm.trans hm
      cases e
      rfl
    refine ⟨fd, DS.binds_end hF (fun _ _ _ _ _ _ us hl => match us, hl with | [_, _, _], _ => rfl), fun base _ _ => ?_⟩
    have C_one_bit_on := DS.ok_one_bit_on (P := PySem.Challenge.rw_damagesums_s08_put.prog) (w := w) (base := base) F_one_bit_on m_FEEDS
    have C_bits_on := DS.ok_bits_on (P := PySem.Challenge.rw_damagesums_s08_put.prog) (w := w) (base := base) F_bits_on C_one_bit_on z_range
    have C_byte_by := DS.ok_byte_by (P := PySem.Challenge.rw_damagesums_s08_put.prog) (w := w) (base := base) F_byte_by C_bits_on
    have C_bytes_by := DS.ok_bytes_by (P := PySem.Challenge.rw_damagesums_s08_put.prog) (w := w) (base := base) F_bytes_by C_byte_by
    have C_turned := DS.ok_turned (P := PySem.Challenge.rw_damagesums_s08_put.prog) (w := w) (base := base) F_turned m_ALL_ONES
    have C_bits_added := DS.ok_bits_added (P := PySem.Challenge.rw_damagesums_s08_put.prog) (w := w) (base := base) F_bits_added C_turned C_bytes_by
    have C_low_of := DS.ok_low_of (P := PySem.Challenge.rw_damagesums_s08_put.prog) (w := w) (base := base) F_low_of n_SHIFT
    have C_high_of := DS.ok_high_of (P := PySem.Challenge.rw_damagesums_s08_put.prog) (w := w) (base := base) F_high_of n_SHIFT
    have C_adler_state := DS.ok_adler_state (P := PySem.Challenge.rw_damagesums_s08_put.prog) (w := w) (base := base) F_adler_state n_SHIFT n_MODULUS
    have C_adler_added := DS.ok_adler_added (P := PySem.Challenge.rw_damagesums_s08_put.prog) (w := w) (base := base) F_adler_added C_low_of C_high_of C_adler_state
    have C_is_odd := DS.ok_is_odd (P := PySem.Challenge.rw_damagesums_s08_put.prog) (w := w) (base := base) F_is_odd n_ODD
    have C_short_of := DS.ok_short_of (P := PySem.Challenge.rw_damagesums_s08_put.prog) (w := w) (base := base) F_short_of n_ODD
    have C_cut_above := DS.ok_cut_above (P := PySem.Challenge.rw_damagesums_s08_put.prog) (w := w) (base := base) F_cut_above n_MOST
    have C_cut_down := DS.ok_cut_down (P := PySem.Challenge.rw_damagesums_s08_put.prog) (w := w) (base := base) F_cut_down C_cut_above
    have C_total_of := DS.ok_total_of (P := PySem.Challenge.rw_damagesums_s08_put.prog) (w := w) (base := base) F_total_of z_enumerate
    have C_ones_state := DS.ok_ones_state (P := PySem.Challenge.rw_damagesums_s08_put.prog) (w := w) (base := base) F_ones_state n_ODD
    have C_ones_added := DS.ok_ones_added (P := PySem.Challenge.rw_damagesums_s08_put.prog) (w := w) (base := base) F_ones_added C_short_of C_total_of C_is_odd C_ones_state C_cut_down z_len
    have C_is_by_bits := DS.ok_is_by_bits (P := PySem.Challenge.rw_damagesums_s08_put.prog) (w := w) (base := base) F_is_by_bits n_BITS_64 n_BITS_32
    have C_is_kind := DS.ok_is_kind (P := PySem.Challenge.rw_damagesums_s08_put.prog) (w := w) (base := base) F_is_kind n_BITS_32 n_ADLER
    have C_begun := DS.ok_begun (P := PySem.Challenge.rw_damagesums_s08_put.prog) (w := w) (base := base) F_begun n_ADLER
    have C_added := DS.ok_added (P := PySem.Challenge.rw_damagesums_s08_put.prog) (w := w) (base := base) F_added C_is_by_bits C_bits_added C_ones_added C_adler_added n_ONES
    have C_sum_by := DS.ok_sum_by (P := PySem.Challenge.rw_damagesums_s08_put.prog) (w := w) (base := base) F_sum_by C_short_of n_ONES n_MOST
    have C_sum_bytes := DS.ok_sum_bytes (P := PySem.Challenge.rw_damagesums_s08_put.prog) (w := w) (base := base) F_sum_bytes m_SIZES z_range
    have C_sum_of_text := DS.ok_sum_of_text (P := PySem.Challenge.rw_damagesums_s08_put.prog) (w := w) (base := base) F_sum_of_text C_sum_by C_added C_begun
    have C_is_text := DS.ok_is_text (P := PySem.Challenge.rw_damagesums_s08_put.prog) (w := w) (base := base) F_is_text n_LONGEST z_len
    have C_has_room := DS.ok_has_room (P := PySem.Challenge.rw_damagesums_s08_put.prog) (w := w) (base := base) F_has_room m_SIZES z_len
    have C_with_sum := DS.ok_with_sum (P := PySem.Challenge.rw_damagesums_s08_put.prog) (w := w) (base := base) F_with_sum C_sum_of_text C_sum_bytes m_SIZES
    have C_put := DS.ok_put (P := PySem.Challenge.rw_damagesums_s08_put.prog) (w := w) (base := base) F_put C_has_room C_is_text C_is_kind C_with_sum n_BAD z_len
    exact DS.cal_end hF hm C_put
  case S =>
    intro K H xs a hO hwi hask hx
    cases hx with
    | cons h0 hx =>
      cases hx with
      | cons h1 hx =>
        cases hx with
        | cons h2 hx =>
          cases hx
          cases h0
          cases h1
          cases h2 with
          | lst hs2 ha2 =>
            have e := L2.ints_dw a.2.2.1 _ ha2
            subst e
            have q : (Codec.inInt (-2147483648) 2147483647 a.1 && (Codec.inInt (-2147483648) 2147483647 a.2.1 && ((Codec.inLen 0 66000 a.2.2.1 && a.2.2.1.all (Codec.inInt 0 255)) && true))) = true := hwi
            simp only [Bool.and_eq_true] at q
            have e2 := DS.bints_of q.2.2.1.2
            have l2 := DS.len_of q.2.2.1.1 (by decide)
            exact ⟨a.1, a.2.1, _, Sf81Neutral.bs a.2.2.1, rfl, (by rw [e2]; exact hs2), (by rw [DS.bs_len]; exact l2), fun H' p hp => .lst (L2.SqL.of hp) (L2.dw_ints _)⟩
#print axioms PySem.Challenge.cw_damagesums_s08_put_holds
